import Derived.Lib.SliceRun
import Derived.Deep.DeepCutAuto
import Derived.Deep.RegionLaw
import Derived.Shelf.RegionOpenPlain
import Derived.Test.YtfcofpgehlmbbaaKUnitNobody1
import Derived.Test.YtfcofpgehlmbbaaKUnitNobody2
-- Printed by wip/tools/pp.py of this claim's session (over the kit's print.py); Lean checks it.
namespace Go.Proofs.Ytfcofpgehlmbbaa.P
open Go.RowKit Go.Proofs.YtfcofpgehlmbbaaW.PrintWords Go.Proofs.YtfcofpgehlmbbaaW.PrintLast Go.Proofs.YtfcofpgehlmbbaaW.PrintMore
attribute [local go_sem] max2_int min2_int max_two min_two max_three min_three max_four min_four   -- for this text's walks alone
set_option linter.unusedVariables false
set_option linter.unusedSimpArgs false

-- SOLO
-- IMPORTS Derived.Lib.SliceRun Derived.Deep.DeepCutAuto Derived.Deep.RegionLaw Derived.Shelf.RegionOpenPlain Derived.Test.YtfcofpgehlmbbaaShelf
/-! ### lit_Clean: function 113 -/
/-- How two numbers compare. -/
def cmpI (a b : Int) : Int := if a < b then -1 else if b < a then 1 else 0
/-- How two literals compare: by their variables, then themselves. -/
def cmpL (a b : Int) : Int := if cmpI (a.natAbs : Int) (b.natAbs : Int) ≠ 0 then cmpI (a.natAbs : Int) (b.natAbs : Int) else cmpI a b
set_option maxRecDepth 100000 in
theorem cmp_isNaN.calls (a : Int) (W : World) : Calls Try.prog 156 #[.int .i64 a] W fun e W' => e = .returned (.bool false) ∧ W' = W := by
  go_enter Try.func156, Try.ntmps156
  go_wp2
  all_goals (go_ret; exact ⟨by simp, rfl⟩)
set_option maxRecDepth 100000 in
theorem cmp_Compare.calls (a b : Int) (W : World) : Calls Try.prog 145 #[.int .i64 a, .int .i64 b] W fun e W' => e = .returned (.int .i64 (cmpI a b)) ∧ W' = W := by
  unfold cmpI
  by_cases h1 : a < b
  · rw [if_pos h1]
    go_enter Try.func145, Try.ntmps145
    go_wp2_with fail
    refine (cmp_isNaN.calls a W).mono ?_
    rintro e w' ⟨rfl, rfl⟩
    go_wp2_with fail
    refine (cmp_isNaN.calls b _).mono ?_
    rintro e w' ⟨rfl, rfl⟩
    go_wp2
    go_ret
    exact ⟨rfl, rfl⟩
  · rw [if_neg h1]
    by_cases h2 : b < a
    · rw [if_pos h2]
      go_enter Try.func145, Try.ntmps145
      go_wp2_with fail
      refine (cmp_isNaN.calls a W).mono ?_
      rintro e w' ⟨rfl, rfl⟩
      go_wp2_with fail
      refine (cmp_isNaN.calls b _).mono ?_
      rintro e w' ⟨rfl, rfl⟩
      go_wp2
      go_ret
      exact ⟨rfl, rfl⟩
    · rw [if_neg h2]
      go_enter Try.func145, Try.ntmps145
      go_wp2_with fail
      refine (cmp_isNaN.calls a W).mono ?_
      rintro e w' ⟨rfl, rfl⟩
      go_wp2_with fail
      refine (cmp_isNaN.calls b _).mono ?_
      rintro e w' ⟨rfl, rfl⟩
      go_wp2
      go_ret
      exact ⟨rfl, rfl⟩
set_option maxRecDepth 100000 in
theorem cmp_Or.calls (a b : Int) (g : Nat) (W : World) (h0 : W.cell? ⟨g, 0, none⟩ = some (.int .i64 a)) (h1 : W.cell? ⟨g, 1, none⟩ = some (.int .i64 b)) :
    Calls Try.prog 144 #[.slice (some ⟨g, 0, none⟩) 2 2] W fun e W' => e = .returned (.int .i64 (if a ≠ 0 then a else b)) ∧ W' = W := by
  go_enter Try.func144, Try.ntmps144
  go_wp2
  go_loopg [5, 8] 2 (fun gg _ v8 wr => ∃ j : Nat, v8 = .int .i64 (j : Int) ∧ wr = W ∧ Aside0 (j + gg = 2) ∧ Aside0 (0 < j → a = 0) ∧ Aside0 (1 < j → b = 0))
  case atStart => exact ⟨0, rfl, rfl, ⟨rfl⟩, ⟨fun h => by omega⟩, ⟨fun h => by omega⟩⟩
  case round =>
    obtain ⟨j, rfl, rfl, hg, ha, hb⟩ := hrel
    rcases Nat.lt_or_ge j 2 with hj | hj
    · rcases Nat.lt_or_ge j 1 with hj1 | hj1
      · obtain rfl : j = 0 := by omega
        by_cases hz : a = 0
        · subst hz
          go_wp2
          go_roundg 1
          case measure => have := hg.out; omega
          case rel => exact ⟨1, rfl, rfl, ⟨rfl⟩, ⟨by simp⟩, ⟨fun h => by omega⟩⟩
        · have c1 : (a != 0) = true := by simpa using hz
          go_wp2
          go_ret
          exact ⟨rfl, rfl⟩
      · obtain rfl : j = 1 := by omega
        have hz := ha.out (by omega)
        subst hz
        by_cases hy : b = 0
        · subst hy
          go_wp2
          go_roundg 0
          case measure => have := hg.out; omega
          case rel => exact ⟨2, rfl, rfl, ⟨rfl⟩, ⟨by simp⟩, ⟨by simp⟩⟩
        · have c1 : (b != 0) = true := by simpa using hy
          go_wp2
          go_ret
          exact ⟨by simp, rfl⟩
    · obtain rfl : j = 2 := by have := hg.out; omega
      have hz := ha.out (by omega)
      have hy := hb.out (by omega)
      subst hz hy
      go_wp2
      go_ret
      exact ⟨by simp, rfl⟩
theorem mx_abs {a : Int} (h : (a ≠ 0 ∧ a ≠ -9223372036854775808) ∧ -9223372036854775808 ≤ a ∧ a ≤ 9223372036854775807) : lit_variable.f a = some (a.natAbs : Int) := by
  unfold lit_variable.f mx wrap64
  split <;> (congr 1; omega)
theorem drewN_drewN (W : World) (m n : Nat) : (W.drewN m).drewN n = W.drewN (m + n) := by
  show ({ W with drawn := W.drawn + m + n } : World) = { W with drawn := W.drawn + (m + n) }
  rw [Nat.add_assoc]
open Go.Sort in
set_option maxRecDepth 100000 in
/-- The comparing closure: it may draw, and lays a block. -/
theorem lit_Clean_1.calls (a b : Int) (W : World) :
    Calls Try.prog 143 #[.int .i64 a, .int .i64 b] W fun e W' => e = .returned (.int .i64 (if cmpI (mx a (wrap64 (-a))) (mx b (wrap64 (-b))) ≠ 0 then cmpI (mx a (wrap64 (-a))) (mx b (wrap64 (-b))) else cmpI a b)) ∧ ∃ q os, W' = grow (W.drewN q) os := by
  have H1 := Aside0.mk (lit_variable.calls a (mx a (wrap64 (-a))) W rfl)
  obtain ⟨x, hx⟩ : ∃ x, mx a (wrap64 (-a)) = x := ⟨_, rfl⟩
  obtain ⟨y, hy⟩ : ∃ y, mx b (wrap64 (-b)) = y := ⟨_, rfl⟩
  rw [hx] at H1
  have HY := Aside0.mk hy
  rw [hx, hy]
  clear hx hy
  obtain ⟨p, hp⟩ : ∃ p, cmpI x y = p := ⟨_, rfl⟩
  obtain ⟨r, hr⟩ : ∃ r, cmpI a b = r := ⟨_, rfl⟩
  have HP := Aside0.mk hp
  have HR := Aside0.mk hr
  rw [hp, hr]
  obtain ⟨u, hu⟩ : ∃ u, (if p ≠ 0 then p else r) = u := ⟨_, rfl⟩
  have HU := Aside0.mk hu
  rw [hu]
  clear hp hr hu
  go_enter Try.func143, Try.ntmps143
  go_wp2_with fail
  refine H1.out.mono ?_
  rintro e w1 ⟨rfl, ⟨⟨n1, rfl⟩⟩⟩
  go_wp2_with fail
  refine (lit_variable.calls b y (W.drewN n1) (by rw [← HY.out]; rfl)).mono ?_
  rintro e w2 ⟨rfl, ⟨⟨n2, rfl⟩⟩⟩
  go_wp2_with fail
  refine (cmp_Compare.calls x y _).mono ?_
  rintro e w3 ⟨rfl, rfl⟩
  rw [HP.out]
  go_wp2_with fail
  refine (cmp_Compare.calls a b _).mono ?_
  rintro e w4 ⟨rfl, rfl⟩
  rw [HR.out]
  go_wp2_with fail
  refine (cmp_Or.calls p r _ _ (by have := blk_cell (blk_new (W.drewN (n1 + n2)) (.cells #[.int .i64 p, .int .i64 r] 3)) 0; exact this) (by have := blk_cell (blk_new (W.drewN (n1 + n2)) (.cells #[.int .i64 p, .int .i64 r] 3)) 1; exact this)).mono ?_
  rintro e w5 ⟨he, rfl⟩
  rw [HU.out] at he
  subst he
  go_wp2
  go_ret
  exact ⟨rfl, n1 + n2, #[.cells #[.int .i64 p, .int .i64 r] 3], by rw [alloc_eq_grow]⟩
/-- How the closure compares. -/
def cfL (a b : Int) : Int := if cmpI (mx a (wrap64 (-a))) (mx b (wrap64 (-b))) ≠ 0 then cmpI (mx a (wrap64 (-a))) (mx b (wrap64 (-b))) else cmpI a b
theorem cmpI_lt {a b : Int} : cmpI a b < 0 ↔ a < b := by unfold cmpI; split <;> (try split) <;> omega
theorem cmpI_ne {a b : Int} : cmpI a b ≠ 0 ↔ a ≠ b := by unfold cmpI; split <;> (try split) <;> omega
theorem cfL_lt {a b : Int} : cfL a b < 0 ↔ mx a (wrap64 (-a)) < mx b (wrap64 (-b)) ∨ (mx a (wrap64 (-a)) = mx b (wrap64 (-b)) ∧ a < b) := by
  unfold cfL
  by_cases h : mx a (wrap64 (-a)) = mx b (wrap64 (-b))
  · rw [if_neg (by rw [cmpI_ne]; simpa using h), cmpI_lt]; omega
  · rw [if_pos (cmpI_ne.2 h), cmpI_lt]; omega
open Go.Sort Go.Proofs in
theorem cfL_swo : SWO (ltOf cfL) := by
  refine ⟨fun x => ?_, fun x y z h1 h2 => ?_, fun x y z h1 h2 => ?_⟩
  · exact decide_eq_false (by rw [cfL_lt]; omega)
  · have h1 := of_decide_eq_true h1
    have h2 := of_decide_eq_true h2
    exact decide_eq_true (by rw [cfL_lt] at h1 h2 ⊢; omega)
  · have h1 := of_decide_eq_false h1
    have h2 := of_decide_eq_false h2
    exact decide_eq_false (by rw [cfL_lt] at h1 h2 ⊢; omega)
open Go.Sort Go.Lib Go.Proofs in
set_option maxRecDepth 100000 in
/-- The sort of literals, over a row of one's own. -/
theorem slices_SortFunc_lits.calls (xs : List Int) (g n cap base : Nat) (ok : Nat → Prop) (W : World) (h : Kd.R (Kd.int .i64) 3 W base ok (.slice (some ⟨g, 0, none⟩) n cap) xs) (hlen : xs.length < 4611686018427387904) :
    Calls Try.prog 142 #[.slice (some ⟨g, 0, none⟩) n cap, .func (.func 143) #[] #[]] W fun e W' => e = .returned (.tuple #[]) ∧ Kd.R (Kd.int .i64) 3 W' base ok (.slice (some ⟨g, 0, none⟩) n cap) (xs.mergeSort fun x y => !(ltOf cfL) y x) ∧
      (∃ W1, (∃ q, W1 = W.drewN q) ∧ ∃ W2, W1.grownBy W2 (some g) ∧ Below W2.heap.size W2 W') := by
  obtain ⟨hn, hnc, hC⟩ := Kd.R_reads' h
  have hbig := hC.2.1
  have hblk : g < W.heap.size := by
    obtain ⟨inner, ho⟩ := Kd.R_own h
    exact own_lt ho g rfl
  have key := Try.slices_SortFunc_total (Value.int .i64) (fun _ => rfl) cfL cfL_swo 143 #[] g 0 cap xs.toArray W (enters_of Try.func143 (by kernel_rfl) rfl)
    (fun m os dk hs x y => calls_of_args (args := #[.int .i64 x, .int .i64 y]) rfl (lit_Clean_1.calls x y _)) (R_holds h) hblk (by simp; omega) (fun x y h1 h2 => by
      have h1 := of_decide_eq_false h1
      have h2 := of_decide_eq_false h2
      rw [cfL_lt] at h1 h2
      omega)
  have hsz : xs.toArray.size = n := by simp [hn]
  rw [hsz] at key
  refine key.mono ?_
  rintro e W' ⟨rfl, q, os, rfl⟩
  obtain ⟨hR, hg⟩ := R_rowPut (xs.mergeSort fun x y => !(ltOf cfL) y x) (by rw [List.length_mergeSort]) q h
  obtain ⟨hR2, hb2⟩ := R_grow os hR
  exact ⟨rfl, hR2, _, ⟨q, rfl⟩, _, hg, hb2⟩
open Go.Sort Go.Lib Go.Proofs in
/-- Compact, over a row of one's own. -/
theorem slices_Compact_R.calls (xs : List Int) (g n cap base : Nat) (ok : Nat → Prop) (W : World) (h : Kd.R (Kd.int .i64) 3 W base ok (.slice (some ⟨g, 0, none⟩) n cap) xs) (hle : (Lib.compact xs).length ≤ xs.length) :
    Calls Try.prog 146 #[.slice (some ⟨g, 0, none⟩) n cap] W fun e W' => e = .returned (.slice (some ⟨g, 0, none⟩) (Lib.compact xs).length cap) ∧ Kd.R (Kd.int .i64) 3 W' base ok (.slice (some ⟨g, 0, none⟩) (Lib.compact xs).length cap) (Lib.compact xs) ∧
      ∃ q, (W.drewN q).grownBy W' (some g) := by
  obtain ⟨hn, hnc, hC⟩ := Kd.R_reads' h
  have hbig := hC.2.1
  have key := Try.slices_Compact_int g 0 cap xs W (R_holds h) (by omega) (by omega)
  rw [← hn] at key
  refine key.mono ?_
  rintro e W' ⟨rfl, q, rfl⟩
  obtain ⟨hR, hg⟩ := R_rowPut (Lib.compact xs ++ List.replicate (n - (Lib.compact xs).length) 0) (by simp; omega) q h
  have hT := Kd.R_take hR (m := (Lib.compact xs).length) (by simp)
  rw [List.take_left'  rfl] at hT
  exact ⟨rfl, hT, q, hg⟩
/-- Two neighbours are opposites. -/
def adjB : List Int → Bool
  | x :: y :: t => (y == wrap64 (-x)) || adjB (y :: t)
  | _ => false
def lit_Clean.out (c : List Int) : List Int := Lib.compact ((c.filter fun l => (lit_is.f l).getD false).mergeSort fun x y => !(Go.Proofs.ltOf cfL) y x)
def lit_Clean.f (l0 : List Int) : Option (List Int × Bool) := if l0.length < 17592186044416 ∧ (lit_Clean.out l0).length ≤ l0.length then some (lit_Clean.out l0, !adjB (lit_Clean.out l0)) else none
set_option maxRecDepth 100000 in
set_option maxHeartbeats 4000000 in
theorem lit_Clean.calls (A0 : Option Addr) (c0 : Nat) (l0 : List Int) (r1 : List Int) (r2 : Bool) (w : World) (hr0 : Kd.C (Kd.int .i64) w A0 l0.length l0) (hc0 : l0.length ≤ c0) (h : lit_Clean.f l0 = some (r1, r2)) :
    Calls Try.prog 113 #[.slice A0 l0.length c0] w fun e w' => ∃ v0_ : Value, e = .returned (.tuple #[v0_, .bool r2]) ∧ Kd.R (Kd.int .i64) 3 w' w.heap.size (fun _ => True) v0_ r1 ∧ Below w.heap.size w w' := by
  unfold lit_Clean.f at h
  by_cases hlen0 : ¬ (l0.length < 17592186044416 ∧ (lit_Clean.out l0).length ≤ l0.length)
  · rw [if_neg hlen0] at h; cases h
  obtain ⟨hlen, hle⟩ := Decidable.not_not.1 hlen0
  rw [if_pos ⟨hlen, hle⟩] at h
  simp only [Option.some.injEq, Prod.mk.injEq] at h
  obtain ⟨rfl, rfl⟩ := h
  have HR := Aside0.mk hr0
  obtain ⟨p, hp⟩ : ∃ p : Int → Bool, p = fun l => (lit_is.f l).getD false := ⟨_, rfl⟩
  have his : ∀ a, lit_is.f a = some (p a) := fun a => by
    rw [hp]
    unfold lit_is.f
    dsimp only
    split <;> rfl
  have HIS := Aside0.mk his
  have HLN := Aside0.mk hlen
  have HLE := Aside0.mk hle
  have HO := Aside0.mk (show lit_Clean.out l0 = Lib.compact ((l0.filter p).mergeSort fun x y => !(Go.Proofs.ltOf cfL) y x) from by rw [hp]; rfl)
  clear hr0 hlen0 hlen hle hp his
  go_enter Try.func113, Try.ntmps113
  go_wp2
  go_loopg [4, 6, 10] l0.length (fun gg v4 _ v10 wr => ∃ i : Nat, v10 = .int .i64 (i : Int) ∧ Aside0 (i + gg = l0.length) ∧ Aside0 (Kd.R (Kd.int .i64) 3 wr w.heap.size (fun _ => True) v4 ((l0.take i).filter p)) ∧ Aside0 (Below w.heap.size w wr))
  case atStart => exact ⟨0, rfl, ⟨by simp⟩, ⟨Kd.R_nil _ _ _ _ _⟩, ⟨Below.refl _ _⟩⟩
  case round =>
    obtain ⟨i, rfl, hg, hR, hB⟩ := hrel
    obtain ⟨A4, c4, rfl⟩ := Kd.R_slice hR.out
    by_cases hlt : i < l0.length
    · obtain ⟨ad, e1, x1⟩ := Kd.at_int (Kd.C_below HR.out hB.out) (i : Int) (by omega) (by omega)
      cases e1
      obtain ⟨y, hy⟩ : ∃ y, l0[i] = y := ⟨_, rfl⟩
      have hrd : rd l0 (i : Int) = y := by simp [rd, hlt, hy]
      rw [hrd] at x1
      simp only [Int.toNat_natCast] at x1
      have htk : (l0.take (i + 1)).filter p = (l0.take i).filter p ++ if p y = true then [y] else [] := by
        rw [List.take_add_one, List.getElem?_eq_getElem hlt, hy, List.filter_append]
        cases hpy : p y <;> simp [hpy]
      have HT := Aside0.mk htk
      have hfl : ((l0.take i).filter p).length ≤ i := Nat.le_trans (List.length_filter_le _ _) (by simp; omega)
      have P0 : ((0 : Int) ≤ (i : Int)) = True := eq_true (by omega)
      have P1 : ((i : Int) < (l0.length : Int)) = True := eq_true (by omega)
      have P2 : (i < l0.length) = True := eq_true hlt
      have hd : decide ((i : Int) < (l0.length : Int)) = true := decide_eq_true (by omega)
      have hln := HLN.out
      clear hrd htk hy
      cases hq : p y with
      | true =>
        have hcall := Aside0.mk (lit_is.calls y true wr (by rw [HIS.out, hq]))
        have hz := HT.out
        rw [if_pos hq] at hz
        have HZ := Aside0.mk hz
        clear hz HT hq
        go_wp2_with fail
        refine hcall.out.mono ?_
        rintro e' w1 ⟨rfl, ⟨⟨n1, rfl⟩⟩⟩
        have hR1 := Aside0.mk (Kd.R_drewN hR.out n1)
        have hB1 := Aside0.mk (pw_below_drewN hB.out n1)
        go_wp2_with (at_builtin; refine Kd.R_append (Kd.int .i64) (w0 := w) w.heap.size rfl (.tmp 16) (.tmp 18) 33 3 (.int .i64 0) 8 rfl Try.underlying33 (by kernel_rfl) rfl (by decide) (by decide) _ ((l0.take i).filter p) y [.int .i64 y] (fun _ => True) (fun _ => False) rfl rfl rfl (fun _ h => h.elim) (fun _ _ => trivial) hR1.out hB1.out hB1.out.size (by omega) ?_; intro v1 w3 r1 hb3 hg3 hat3)
        go_roundg (l0.length - (i + 1))
        case measure => have := hg.out; omega
        case rel => exact ⟨i + 1, by simp, ⟨by have := hg.out; omega⟩, ⟨by rw [HZ.out]; exact r1⟩, ⟨hb3⟩⟩
      | false =>
        have hcall := Aside0.mk (lit_is.calls y false wr (by rw [HIS.out, hq]))
        have hz := HT.out
        rw [if_neg (by rw [hq]; decide), List.append_nil] at hz
        have HZ := Aside0.mk hz
        clear hz HT hq
        go_wp2_with fail
        refine hcall.out.mono ?_
        rintro e' w1 ⟨rfl, ⟨⟨n1, rfl⟩⟩⟩
        go_wp2
        go_roundg (l0.length - (i + 1))
        case measure => have := hg.out; omega
        case rel => exact ⟨i + 1, by simp, ⟨by have := hg.out; omega⟩, ⟨by rw [HZ.out]; exact Kd.R_drewN hR.out n1⟩, ⟨pw_below_drewN hB.out n1⟩⟩
    · have hd : decide ((i : Int) < (l0.length : Int)) = false := decide_eq_false (by omega)
      have P2 : (i < l0.length) = False := eq_false hlt
      have htake : (l0.take i).filter p = l0.filter p := by rw [List.take_of_length_le (by omega)]
      have hRf := hR.out
      rw [htake] at hRf ⊢
      obtain ⟨fl, hfl⟩ : ∃ fl, l0.filter p = fl := ⟨_, rfl⟩
      have hflen : fl.length ≤ l0.length := by rw [← hfl]; exact List.length_filter_le _ _
      have hout := HO.out
      rw [hfl] at hRf hout ⊢
      have HRF := Aside0.mk hRf
      have HOUT := Aside0.mk hout
      have HB := hB
      have hln := HLN.out
      clear hRf hR htake hfl hout hB HO hg HIS
      have fin : ∀ (v : Value) (W : World), Kd.R (Kd.int .i64) 3 W w.heap.size (fun _ => True) v (lit_Clean.out l0) → True := fun _ _ _ => trivial
      by_cases hz : fl.length = 0
      · have hnil : fl = [] := List.length_eq_zero_iff.1 hz
        subst hnil
        have hce : Lib.compact (([] : List Int).mergeSort fun x y => !(Go.Proofs.ltOf cfL) y x) = [] := List.length_eq_zero_iff.1 (Nat.le_zero.1 (Nat.le_trans (Lib.compact_length_le _) (by simp)))
        have HO2 := Aside0.mk (HOUT.out.trans hce)
        clear HOUT hce HLE hz
        go_wp2_with fail
        refine (Try.slices_SortFunc_none (α := Int) A4 c4 _ wr).mono ?_
        rintro e' w1 ⟨rfl, rfl⟩
        go_wp2_with fail
        refine (Try.slices_Compact_int_empty A4 c4 _).mono ?_
        rintro e' w2 ⟨rfl, rfl⟩
        go_wp2
        go_loopg [7] 0 (fun gg v7 wr2 => v7 = .int .i64 1 ∧ wr2 = w2)
        case atStart => exact ⟨rfl, rfl⟩
        case round =>
          obtain ⟨rfl, rfl⟩ := hrel
          go_wp2
          go_ret2
          rw [HO2.out]
          exact ⟨_, rfl, HRF.out, HB.out⟩
      · obtain ⟨inner, ho⟩ := Kd.R_own HRF.out
        obtain ⟨g, rfl⟩ : ∃ g, A4 = some ⟨g, 0, none⟩ := by
          rcases ho.2 with ⟨e1, e2⟩ | ⟨g, cap, cur, e1, _⟩
          · omega
          · injection e1 with e1 _ _; exact ⟨g, e1⟩
        have hgb : w.heap.size ≤ g := own_base ho g rfl
        clear ho
        have hle : (Lib.compact (fl.mergeSort fun x y => !(Go.Proofs.ltOf cfL) y x)).length ≤ (fl.mergeSort fun x y => !(Go.Proofs.ltOf cfL) y x).length := Lib.compact_length_le _
        have HLE2 := Aside0.mk hle
        clear hle
        go_wp2_with fail
        refine (slices_SortFunc_lits.calls fl g fl.length c4 w.heap.size (fun _ => True) wr HRF.out (by omega)).mono ?_
        rintro e' w1 ⟨rfl, hR1, W1, ⟨q1, rfl⟩, W2, hg1, hb1⟩
        have HR1 := Aside0.mk hR1
        have hB2 : Below w.heap.size w W2 := (pw_below_drewN HB.out q1).grown hg1 (pw_below_drewN HB.out q1).size (fun k e => by cases e; exact hgb)
        have HB1 := Aside0.mk (hB2.trans (hb1.mono hB2.size))
        clear hR1 hB2 hg1 hb1
        go_wp2_with fail
        refine (slices_Compact_R.calls _ g fl.length c4 w.heap.size (fun _ => True) w1 HR1.out HLE2.out).mono ?_
        rintro e' w2 ⟨rfl, hR2, q2, hg2⟩
        rw [← HOUT.out] at hR2
        try rw [← HOUT.out]
        have HR2 := Aside0.mk hR2
        have HB2 := Aside0.mk ((pw_below_drewN HB1.out q2).grown hg2 (pw_below_drewN HB1.out q2).size (fun k e => by cases e; exact hgb))
        clear hR2 hg2 HR1 HRF HB1
        obtain ⟨out, hout⟩ : ∃ out, lit_Clean.out l0 = out := ⟨_, rfl⟩
        rw [hout] at HR2 HLE ⊢
        have HO2 := Aside0.mk hout
        clear hout HOUT HLE2
        have hol := HLE.out
        go_wp2
        go_loopg [7] out.length (fun gg v7 wr => ∃ j : Nat, v7 = .int .i64 (j : Int) ∧ 1 ≤ j ∧ Aside0 (out.length ≤ j + gg) ∧ Aside0 (Kd.R (Kd.int .i64) 3 wr w.heap.size (fun _ => True) (.slice (some ⟨g, 0, none⟩) out.length c4) out) ∧ Aside0 (Below w.heap.size w wr) ∧ Aside0 (adjB (out.drop (j - 1)) = adjB out))
        case atStart => exact ⟨1, rfl, Nat.le_refl _, ⟨by omega⟩, HR2, HB2, ⟨rfl⟩⟩
        case round =>
          clear HR2 HB2 HB
          obtain ⟨j, rfl, hj1, hg, hR, hB, hA⟩ := hrel
          by_cases hjt : j < out.length
          · obtain ⟨y, hy⟩ : ∃ y, out[j] = y := ⟨_, rfl⟩
            obtain ⟨x, hx⟩ : ∃ x, out[j - 1] = x := ⟨_, rfl⟩
            obtain ⟨c1, _⟩ := Kd.R_celln (0 : Int) hR.out (j : Int) (by omega) (by omega)
            obtain ⟨c2, _⟩ := Kd.R_celln (0 : Int) hR.out ((j : Int) - 1) (by omega) (by omega)
            have ej : rdOf 0 out (j : Int) = y := by simp [rdOf, hjt, hy]
            have ex : rdOf 0 out ((j : Int) - 1) = x := by rw [show (j : Int) - 1 = ((j - 1 : Nat) : Int) by omega]; simp [rdOf, show j - 1 < out.length by omega, hx]
            rw [ej] at c1
            rw [ex] at c2
            simp only [Int.toNat_natCast] at c1
            rw [show ((j : Int) - 1).toNat = j - 1 by omega] at c2
            have hA2 := hA.out
            rw [List.drop_eq_getElem_cons (show j - 1 < out.length by omega), hx, show j - 1 + 1 = j by omega, List.drop_eq_getElem_cons hjt, hy, adjB] at hA2
            have HA2 := Aside0.mk hA2
            have HY := Aside0.mk (show out.drop j = y :: out.drop (j + 1) by rw [List.drop_eq_getElem_cons hjt, hy])
            have P0 : ((0 : Int) ≤ (j : Int)) = True := eq_true (by omega)
            have P1 : ((j : Int) < (out.length : Int)) = True := eq_true (by omega)
            have P2 : (j < out.length) = True := eq_true hjt
            have P3 : ((1 : Int) ≤ (j : Int)) = True := eq_true (by omega)
            have P4 : ((j : Int) - 1 < (out.length : Int)) = True := eq_true (by omega)
            have hd : decide ((j : Int) < (out.length : Int)) = true := decide_eq_true (by omega)
            have P5 : IntKind.i64.wrap ((j : Int) - 1) = (j : Int) - 1 := Go.IntWalk.i64_in _ (by omega)
            have P6 : IntKind.i64.wrap (-x) = wrap64 (-x) := Go.IntWalk.i64_left _
            have mixed : Try.prog.follows .mixedOrders = true := by kernel_rfl
            clear hA hA2 ej ex hx hy
            go_wp2_with fail
            go_cut [41] (fun v41 wc => v41 = .bool (y == wrap64 (-x)) ∧ wc = wr.drew)
            case first =>
              go_region_law_o (fail)
              all_goals (go_wp2_with fail; go_meet; exact ⟨rfl, rfl⟩)
            case rest =>
            obtain ⟨rfl, rfl⟩ := hcut
            have HRd := Aside0.mk (Kd.R_drew hR.out)
            have HBd := Aside0.mk (below_drew hB.out)
            cases hq : (y == wrap64 (-x)) with
            | true =>
              have hz := HA2.out
              rw [hq, Bool.true_or] at hz
              have HZ := Aside0.mk hz
              clear hz
              go_wp2
              go_ret2
              rw [HO2.out, ← HZ.out]
              exact ⟨_, rfl, HRd.out, HBd.out⟩
            | false =>
              have hz := HA2.out
              rw [hq, Bool.false_or] at hz
              have HZ := Aside0.mk hz
              clear hz
              go_wp2
              go_roundg (out.length - j - 1)
              case measure => have := hg.out; omega
              case rel => exact ⟨j + 1, by simp, by omega, ⟨by omega⟩, HRd, HBd, ⟨by rw [show j + 1 - 1 = j by omega, HY.out]; exact HZ.out⟩⟩
          · have hd : decide ((j : Int) < (out.length : Int)) = false := decide_eq_false (by omega)
            have P2 : (j < out.length) = False := eq_false hjt
            have hz : adjB out = false := by
              rw [← hA.out]
              have hl : (out.drop (j - 1)).length ≤ 1 := by rw [List.length_drop]; omega
              match out.drop (j - 1), hl with
              | [], _ => rfl
              | [_], _ => rfl
              | _ :: _ :: _, hl => exact absurd hl (by simp)
            have HZ := Aside0.mk hz
            clear hz
            go_wp2
            go_ret2
            rw [HO2.out, HZ.out]
            exact ⟨_, rfl, hR.out, hB.out⟩


end Go.Proofs.Ytfcofpgehlmbbaa.P

-- Printed by wip/tools/pp.py of this claim's session (over the kit's print.py); Lean checks it.
namespace Go.Proofs.Ytfcofpgehlmbbaa.P
open Go.RowKit Go.Proofs.YtfcofpgehlmbbaaW.PrintWords Go.Proofs.YtfcofpgehlmbbaaW.PrintLast Go.Proofs.YtfcofpgehlmbbaaW.PrintMore
attribute [local go_sem] max2_int min2_int max_two min_two max_three min_three max_four min_four   -- for this text's walks alone
set_option linter.unusedVariables false
set_option linter.unusedSimpArgs false

/-! ### cnf_Right: function 60 -/
mutual
def cnf_Right.j0 : Nat → Bool → Int → List (List Int) → Option (Int × Int)
  | 0, _, _, _ => none
  | k + 1, x14, x109000, x109001 => if x14 = true then (some ((-1), 1)) else (if (x109001.length : Int) > 4096 then (some ((-1), 2)) else (cnf_Right.l0 k x109001 (x109001.length : Int) 0 x109000 x109001))
def cnf_Right.l0 : Nat → List (List Int) → Int → Int → Int → List (List Int) → Option (Int × Int)
  | 0, _, _, _, _, _ => none
  | k + 1, x20, x21, x22, x109000, x109001 => if x22 < x21 then (if 0 ≤ x22 then (if x22 < (x20.length : Int) then ((lit_Right.f k (rd_L3 x20 x22) x109000).bind fun t110 => (if t110 = 0 then (cnf_Right.l0 k x20 x21 (wrap64 (x22 + 1)) x109000 x109001) else (some (x22, t110)))) else (none)) else (none)) else (some (0, 0))
end
def cnf_Right.f (k : Nat) (a0_0 : Int) (l0_1 : List (List Int)) : Option (Int × Int) := if a0_0 < 0 then (cnf_Right.j0 k true a0_0 l0_1) else (cnf_Right.j0 k (decide (a0_0 > 1024)) a0_0 l0_1)
theorem cnf_Right.mono_l : ∀ k, (∀ y0 y1 y2, LeO (cnf_Right.j0 k y0 y1 y2) (cnf_Right.j0 (k + 1) y0 y1 y2)) ∧ (∀ y0 y1 y2 y3 y4, LeO (cnf_Right.l0 k y0 y1 y2 y3 y4) (cnf_Right.l0 (k + 1) y0 y1 y2 y3 y4))
  | 0 => ⟨fun _ _ _ r h => by simp [cnf_Right.j0] at h, fun _ _ _ _ _ r h => by simp [cnf_Right.l0] at h⟩
  | k + 1 => by
    obtain ⟨ih0, ih1⟩ := cnf_Right.mono_l k
    refine ⟨?_, ?_⟩
    · intro y0 y1 y2
      unfold cnf_Right.j0
      repeat' first
      | (with_reducible exact ih0 _ _ _)
      | (with_reducible exact ih1 _ _ _ _ _)
      | (with_reducible exact lit_Right.mono _ _ _)
      | (with_reducible exact LeO.refl _)
      | (with_reducible exact LeO.none _)
      | (with_reducible refine LeO.ite ?_ ?_)
      | (with_reducible refine LeO.bind ?_ (fun _ => ?_))
      | exact ih0 _ _ _
      | exact ih1 _ _ _ _ _
      | exact lit_Right.mono _ _ _
      | exact LeO.none _
      | refine LeO.ite ?_ ?_
      | refine LeO.bind ?_ (fun _ => ?_)
    · intro y0 y1 y2 y3 y4
      unfold cnf_Right.l0
      repeat' first
      | (with_reducible exact ih0 _ _ _)
      | (with_reducible exact ih1 _ _ _ _ _)
      | (with_reducible exact lit_Right.mono _ _ _)
      | (with_reducible exact LeO.refl _)
      | (with_reducible exact LeO.none _)
      | (with_reducible refine LeO.ite ?_ ?_)
      | (with_reducible refine LeO.bind ?_ (fun _ => ?_))
      | exact ih0 _ _ _
      | exact ih1 _ _ _ _ _
      | exact lit_Right.mono _ _ _
      | exact LeO.none _
      | refine LeO.ite ?_ ?_
      | refine LeO.bind ?_ (fun _ => ?_)
theorem cnf_Right.mono : ∀ a0 a1 k, LeO (cnf_Right.f k a0 a1) (cnf_Right.f (k + 1) a0 a1) := by
  intro a0 a1 k
  obtain ⟨ih0, ih1⟩ := cnf_Right.mono_l k
  unfold cnf_Right.f
  repeat' first
      | (with_reducible exact ih0 _ _ _)
      | (with_reducible exact ih1 _ _ _ _ _)
      | (with_reducible exact lit_Right.mono _ _ _)
      | (with_reducible exact LeO.refl _)
      | (with_reducible exact LeO.none _)
      | (with_reducible refine LeO.ite ?_ ?_)
      | (with_reducible refine LeO.bind ?_ (fun _ => ?_))
      | exact ih0 _ _ _
      | exact ih1 _ _ _ _ _
      | exact lit_Right.mono _ _ _
      | exact LeO.none _
      | refine LeO.ite ?_ ?_
      | refine LeO.bind ?_ (fun _ => ?_)
set_option maxHeartbeats 8000000 in
set_option maxRecDepth 100000 in
theorem cnf_Right.calls (k : Nat) (a0_0 : Int) (A0_1 : Option Addr) (c0_1 : Nat) (l0_1 : List (List Int)) (r1 : Int) (r2 : Int) (w : World) (hr0_1 : Kd.C (Kd.slice 3 (Kd.int .i64)) w A0_1 l0_1.length l0_1) (hc0_1 : l0_1.length ≤ c0_1) (h : cnf_Right.f k a0_0 l0_1 = some (r1, r2)) :
    Calls Try.prog 60 #[.agg #[.int .i64 a0_0, .slice A0_1 l0_1.length c0_1]] w fun e w' => e = .returned (.tuple #[.int .i64 r1, .int .i64 r2]) ∧ Below w.heap.size w w' := by
  have hu24 := Try.underlying24
  have HR0_1 := Aside0.mk hr0_1
  have HC0_1 := Aside0.mk hc0_1
  clear hr0_1 hc0_1
  have HB := Aside0.mk (Below.refl w.heap.size w)
  have H : (if a0_0 < 0 then (cnf_Right.j0 k true a0_0 l0_1) else (cnf_Right.j0 k (decide (a0_0 > 1024)) a0_0 l0_1)) = some (r1, r2) := h
  clear h
  have HC2 := Aside0.mk H
  clear H
  go_enter Try.func60, Try.ntmps60
  go_upto_region 1 with (first | ((with_reducible refine gate_dst (N := 1) rfl ?_); refine box_event ?hg (N := 1) ?hd (cs := #[.int .i64 a0_0, .slice A0_1 l0_1.length c0_1]) (t := 24) ?hr ?_; (case hd => rfl); (case hg => rfl); (case hr => first | (go_simp; done) | (go_simp; rfl)); intro gb108 hg w3 hbox hb; have n0_ := Aside0.mk (below_step (by repeat (first | (with_reducible first | exact HB.out | apply below_alloc | apply pw_below_drewN | apply below_drew1) | exact HB.out)) hb); have n1_ := Aside0.mk (hbox); have n2_ := Aside0.mk ((by rw [hg]; exact (below_size (by repeat (first | (with_reducible first | exact HB.out | apply below_alloc | apply pw_below_drewN | apply below_drew1) | exact HB.out))) : w.heap.size ≤ gb108)); have n3_ := Aside0.mk ((by rw [hg]; exact (below_size (by repeat (first | (with_reducible first | exact HB.out | apply below_alloc | apply pw_below_drewN | apply below_drew1) | exact HB.out))) : w.heap.size ≤ gb108)); clear HB; have HB := n0_; have BK108 := n1_; have GW108 := n2_; have GE108 := n3_; clear n0_ n1_ n2_ n3_; clear hb hbox hg))
  (try simp only [Act.put, List.setIfInBounds_toArray, List.set_cons_zero, List.set_cons_succ])
  go_cut [14] (fun v14 wc => ∃ (kq : Nat) (x14_1 : Bool), v14 = .bool x14_1 ∧ Aside0 (cnf_Right.j0 kq x14_1 a0_0 l0_1 = some (r1, r2)) ∧ Aside0 (kq ≤ k) ∧ Aside0 (wc.heap[gb108]? = some (.cells #[.int .i64 a0_0, (.slice A0_1 l0_1.length c0_1)] 24 (0, 0))) ∧ Aside0 (Below w.heap.size w wc))
  case first =>
    have H := HC2.out
    clear HC2
    by_cases c4 : a0_0 < 0
    · rw [if_pos c4] at H
      have c4b0 : decide (a0_0 < 0) = true := decide_eq_true c4
      clear c4
      (first | rw [c4b0] | (simp only [i64_w, i32_w]; rw [c4b0]) | skip)
      as_aux_lemma =>
        have H' := Aside0.mk H
        clear H
        have hcz5_0 : w3.cell? ⟨gb108, 0, none⟩ = some (.int .i64 a0_0) := (blk_cell BK108.out 0).trans rfl
        have hcz5_1 : w3.cell? ⟨gb108, 1, none⟩ = some (.slice A0_1 l0_1.length c0_1) := (blk_cell BK108.out 1).trans rfl
        have hfz5_0 := blk_frozen BK108.out 0
        have hfz5_1 := blk_frozen BK108.out 1
        go_wp2
        go_meet
        case rel => exact ⟨_, (true), (by first | rfl | (simp; done) | (simp [*]; done)), H', ⟨by first | omega | exact Nat.le_refl _⟩, ⟨by (with_reducible repeat (first | refine blk_drewN ?_ _ | refine blk_drew ?_ | refine blk_alloc ?_ _)); exact BK108.out⟩, ⟨by repeat (first | (with_reducible first | exact HB.out | apply below_alloc | apply pw_below_drewN | apply below_drew1 | refine below_set ?_ GE108.out) | exact HB.out)⟩⟩
    · rw [if_neg c4] at H
      have c4b0 : decide (a0_0 < 0) = false := decide_eq_false c4
      clear c4
      (first | rw [c4b0] | (simp only [i64_w, i32_w]; rw [c4b0]) | skip)
      as_aux_lemma =>
        have H' := Aside0.mk H
        clear H
        have hcz6_0 : w3.cell? ⟨gb108, 0, none⟩ = some (.int .i64 a0_0) := (blk_cell BK108.out 0).trans rfl
        have hcz6_1 : w3.cell? ⟨gb108, 1, none⟩ = some (.slice A0_1 l0_1.length c0_1) := (blk_cell BK108.out 1).trans rfl
        have hfz6_0 := blk_frozen BK108.out 0
        have hfz6_1 := blk_frozen BK108.out 1
        go_wp2
        go_meet
        case rel => exact ⟨_, (decide (a0_0 > 1024)), (by first | rfl | (simp; done) | (simp [*]; done)), H', ⟨by first | omega | exact Nat.le_refl _⟩, ⟨by (with_reducible repeat (first | refine blk_drewN ?_ _ | refine blk_drew ?_ | refine blk_alloc ?_ _)); exact BK108.out⟩, ⟨by repeat (first | (with_reducible first | exact HB.out | apply below_alloc | apply pw_below_drewN | apply below_drew1 | refine below_set ?_ GE108.out) | exact HB.out)⟩⟩
  case rest =>
    clear HC2
    try clear p2
    try clear c4
    try clear c4b0
    try clear c6
    try clear hcz5_0
    try clear hcz5_1
    try clear hcz6_0
    try clear hcz6_1
    try clear hfz5_0
    try clear hfz5_1
    try clear hfz6_0
    try clear hfz6_1
    obtain ⟨kq, x14_1, rfl, HA, HJ1, BK108, HB⟩ := hcut
    cases kq with
    | zero => exact absurd HA.out (by simp [cnf_Right.j0])
    | succ kj1 =>
      have H := HA.out
      clear HA
      simp only [cnf_Right.j0] at H
      by_cases c7 : x14_1 = true
      · subst c7
        have H1 : (some ((-1), 1)) = some (r1, r2) := by rw [if_pos rfl] at H; exact H
        clear H
        have H := H1
        clear H1
        as_aux_lemma =>
          simp only [Option.some.injEq, Prod.mk.injEq] at H
          obtain ⟨rfl, rfl⟩ := H
          go_wp2
          go_ret2
          exact ⟨by first | rfl | (simp [errW_none, errW_some] <;> rfl) | (simp [*, errW_none, errW_some] <;> rfl), by repeat (first | (with_reducible first | exact HB.out | apply below_alloc | apply pw_below_drewN | apply below_drew1 | refine below_set ?_ GE108.out) | exact HB.out)⟩
      · replace c7 := Bool.eq_false_iff.mpr c7
        subst c7
        have H1 : (if (l0_1.length : Int) > 4096 then (some ((-1), 2)) else (cnf_Right.l0 kj1 l0_1 (l0_1.length : Int) 0 a0_0 l0_1)) = some (r1, r2) := by rw [if_neg (show ¬ (false = true) by decide)] at H; exact H
        clear H
        have H := H1
        clear H1
        by_cases c8 : (l0_1.length : Int) > 4096
        · rw [if_pos c8] at H
          have c8b0 : decide (4096 < (l0_1.length : Int)) = true := decide_eq_true c8
          have c8b1 : decide (4096 < l0_1.length) = true := decide_eq_true (by omega)
          clear c8
          as_aux_lemma =>
            simp only [Option.some.injEq, Prod.mk.injEq] at H
            obtain ⟨rfl, rfl⟩ := H
            have hcz9_0 : wc.cell? ⟨gb108, 0, none⟩ = some (.int .i64 a0_0) := (blk_cell BK108.out 0).trans rfl
            have hcz9_1 : wc.cell? ⟨gb108, 1, none⟩ = some (.slice A0_1 l0_1.length c0_1) := (blk_cell BK108.out 1).trans rfl
            have hfz9_0 := blk_frozen BK108.out 0
            have hfz9_1 := blk_frozen BK108.out 1
            go_wp2
            go_ret2
            exact ⟨by first | rfl | (simp [errW_none, errW_some] <;> rfl) | (simp [*, errW_none, errW_some] <;> rfl), by repeat (first | (with_reducible first | exact HB.out | apply below_alloc | apply pw_below_drewN | apply below_drew1 | refine below_set ?_ GE108.out) | exact HB.out)⟩
        · rw [if_neg c8] at H
          have c8b0 : decide (4096 < (l0_1.length : Int)) = false := decide_eq_false c8
          have c8b1 : decide (4096 < l0_1.length) = false := decide_eq_false (by omega)
          clear c8
          have H' := Aside0.mk H
          clear H
          have hcz10_0 : wc.cell? ⟨gb108, 0, none⟩ = some (.int .i64 a0_0) := (blk_cell BK108.out 0).trans rfl
          have hcz10_1 : wc.cell? ⟨gb108, 1, none⟩ = some (.slice A0_1 l0_1.length c0_1) := (blk_cell BK108.out 1).trans rfl
          have hfz10_0 := blk_frozen BK108.out 0
          have hfz10_1 := blk_frozen BK108.out 1
          go_wp2
          go_loopg [22] kj1 (fun kq v22 w' => ∃ (x22_2 : Int), v22 = .int .i64 x22_2 ∧ Aside0 (cnf_Right.l0 kq l0_1 (l0_1.length : Int) x22_2 a0_0 l0_1 = some (r1, r2)) ∧ Aside0 (kq ≤ kj1) ∧ Aside0 (w'.heap[gb108]? = some (.cells #[.int .i64 a0_0, (.slice A0_1 l0_1.length c0_1)] 24 (0, 0))) ∧ Aside0 (Below w.heap.size w w'))
          case atStart => exact ⟨(0), (by first | rfl | (simp; done) | (simp [*]; done)), H', ⟨Nat.le_refl _⟩, ⟨by (with_reducible repeat (first | refine blk_drewN ?_ _ | refine blk_drew ?_ | refine blk_alloc ?_ _)); exact BK108.out⟩, ⟨by repeat (first | (with_reducible first | exact HB.out | apply below_alloc | apply pw_below_drewN | apply below_drew1 | refine below_set ?_ GE108.out) | exact HB.out)⟩⟩
          case round =>
            clear H'
            try clear p2
            try clear c4
            try clear c4b0
            try clear c6
            try clear c7
            try clear c8
            try clear c8b0
            try clear c8b1
            try clear hcz10_0
            try clear hcz10_1
            try clear hcz5_0
            try clear hcz5_1
            try clear hcz6_0
            try clear hcz6_1
            try clear hcz9_0
            try clear hcz9_1
            try clear hfz10_0
            try clear hfz10_1
            try clear hfz5_0
            try clear hfz5_1
            try clear hfz6_0
            try clear hfz6_1
            try clear hfz9_0
            try clear hfz9_1
            try clear p2
            obtain ⟨x22_2, rfl, HA, HK2, BK108, HB⟩ := hrel
            cases gk with
            | zero => exact absurd HA.out (by simp [cnf_Right.l0])
            | succ k2 =>
              have H := HA.out
              clear HA
              simp only [cnf_Right.l0] at H
              by_cases c11 : x22_2 < (l0_1.length : Int)
              · rw [if_pos c11] at H
                have c11b0 : decide (x22_2 < (l0_1.length : Int)) = true := decide_eq_true c11
                clear c11
                by_cases c12 : 0 ≤ x22_2
                · rw [if_pos c12] at H
                  have c12b0 : decide (0 ≤ x22_2) = true := decide_eq_true c12
                  clear c12
                  by_cases c13 : x22_2 < (l0_1.length : Int)
                  · rw [if_pos c13] at H
                    have c13b0 : decide (x22_2 < (l0_1.length : Int)) = true := decide_eq_true c13
                    clear c13
                    replace H := Option.bind_eq_some_iff.mp H
                    obtain ⟨t110, A140, H⟩ := H
                    replace H : (if t110 = 0 then (cnf_Right.l0 k2 l0_1 (l0_1.length : Int) (wrap64 (x22_2 + 1)) a0_0 l0_1) else (some (x22_2, t110))) = some (r1, r2) := H
                    have A14 := Aside0.mk A140
                    clear A140
                    by_cases c15 : t110 = 0
                    · rw [if_pos c15] at H
                      have c15b0 : (t110 == 0) = true := beq_iff_eq.mpr c15
                      have c15b1 : (t110 != 0) = false := bne_eq_false_iff_eq.mpr c15
                      clear c15
                      as_aux_lemma =>
                        have H' := Aside0.mk H
                        clear H
                        have p109 : 0 ≤ (x22_2 : Int) := of_decide_eq_true (by first | (with_reducible assumption) | assumption)
                        have q109 : x22_2 < (l0_1.length : Int) := of_decide_eq_true (by first | (with_reducible assumption) | assumption)
                        obtain ⟨ad109, A109_0, c109_0, e109, hx109_0, hl109_0, hi109_0⟩ := at_L3 HR0_1.out x22_2 p109 q109
                        cases e109
                        replace hx109_0 := (HB.out.cell (World.block_lt_of_cell? w _ hx109_0)).trans hx109_0
                        have HR109_0 := Aside0.mk hi109_0
                        have HC109_0 := Aside0.mk hl109_0
                        clear hi109_0 hl109_0
                        replace p109 := eq_true p109
                        replace q109 := eq_true q109
                        have hcz16_0 : wr.cell? ⟨gb108, 0, none⟩ = some (.int .i64 a0_0) := (blk_cell BK108.out 0).trans rfl
                        have hcz16_1 : wr.cell? ⟨gb108, 1, none⟩ = some (.slice (some ad109) l0_1.length c0_1) := (blk_cell BK108.out 1).trans rfl
                        have hfz16_0 := blk_frozen BK108.out 0
                        have hfz16_1 := blk_frozen BK108.out 1
                        go_wp2_with (first | ((with_reducible refine gate_callee (f := 75) rfl ?_); refine goesL_ (some 30) rfl rfl Try.func75 (by kernel_rfl) rfl #[.slice A109_0 (rd_L3 l0_1 x22_2).length c109_0, .int .i64 a0_0] rfl (by (try simp only [List.map_toArray, List.map_cons, List.map_nil]); first | done | rfl | (simp only [List.length_drop, List.length_take]; rfl)) ?_; (with_reducible refine (lit_Right.calls k2 _ _ (rd_L3 l0_1 x22_2) a0_0 t110 _ ?side1 ?side2 A14.out).mono ?_); (case side1 => repeat (first | exact (Kd.C_below HR109_0.out HB.out) | (with_reducible refine Kd.C_alloc ?_ _) | (with_reducible refine Kd.C_drewN ?_ _) | (with_reducible refine Kd.C_drew ?_))); (case side2 => exact HC109_0.out); rintro e w' ⟨rfl, ⟨nd, rfl⟩⟩; refine ⟨_, rfl, ?_⟩))
                        go_roundg k2
                        case measure => have := HJ1.out; have := HK2.out; omega
                        case rel => exact ⟨(wrap64 (x22_2 + 1)), (by first | rfl | (simp; done) | (simp [*]; done)), H', ⟨by have := HJ1.out; have := HK2.out; omega⟩, ⟨by (with_reducible repeat (first | refine blk_drewN ?_ _ | refine blk_drew ?_ | refine blk_alloc ?_ _)); exact BK108.out⟩, ⟨by repeat (first | (with_reducible first | exact HB.out | apply below_alloc | apply pw_below_drewN | apply below_drew1 | refine below_set ?_ GE108.out) | exact HB.out)⟩⟩
                    · rw [if_neg c15] at H
                      have c15b0 : (t110 == 0) = false := beq_eq_false_iff_ne.mpr c15
                      have c15b1 : (t110 != 0) = true := bne_iff_ne.mpr c15
                      as_aux_lemma =>
                        simp only [Option.some.injEq, Prod.mk.injEq] at H
                        obtain ⟨rfl, rfl⟩ := H
                        have p109 : 0 ≤ (x22_2 : Int) := of_decide_eq_true (by first | (with_reducible assumption) | assumption)
                        have q109 : x22_2 < (l0_1.length : Int) := of_decide_eq_true (by first | (with_reducible assumption) | assumption)
                        obtain ⟨ad109, A109_0, c109_0, e109, hx109_0, hl109_0, hi109_0⟩ := at_L3 HR0_1.out x22_2 p109 q109
                        cases e109
                        replace hx109_0 := (HB.out.cell (World.block_lt_of_cell? w _ hx109_0)).trans hx109_0
                        have HR109_0 := Aside0.mk hi109_0
                        have HC109_0 := Aside0.mk hl109_0
                        clear hi109_0 hl109_0
                        replace p109 := eq_true p109
                        replace q109 := eq_true q109
                        have hcz17_0 : wr.cell? ⟨gb108, 0, none⟩ = some (.int .i64 a0_0) := (blk_cell BK108.out 0).trans rfl
                        have hcz17_1 : wr.cell? ⟨gb108, 1, none⟩ = some (.slice (some ad109) l0_1.length c0_1) := (blk_cell BK108.out 1).trans rfl
                        have hfz17_0 := blk_frozen BK108.out 0
                        have hfz17_1 := blk_frozen BK108.out 1
                        go_wp2_with (first | ((with_reducible refine gate_callee (f := 75) rfl ?_); refine goesL_ (some 30) rfl rfl Try.func75 (by kernel_rfl) rfl #[.slice A109_0 (rd_L3 l0_1 x22_2).length c109_0, .int .i64 a0_0] rfl (by (try simp only [List.map_toArray, List.map_cons, List.map_nil]); first | done | rfl | (simp only [List.length_drop, List.length_take]; rfl)) ?_; (with_reducible refine (lit_Right.calls k2 _ _ (rd_L3 l0_1 x22_2) a0_0 t110 _ ?side1 ?side2 A14.out).mono ?_); (case side1 => repeat (first | exact (Kd.C_below HR109_0.out HB.out) | (with_reducible refine Kd.C_alloc ?_ _) | (with_reducible refine Kd.C_drewN ?_ _) | (with_reducible refine Kd.C_drew ?_))); (case side2 => exact HC109_0.out); rintro e w' ⟨rfl, ⟨nd, rfl⟩⟩; refine ⟨_, rfl, ?_⟩))
                        go_ret2
                        exact ⟨by first | rfl | (simp [errW_none, errW_some] <;> rfl) | (simp [*, errW_none, errW_some] <;> rfl), by repeat (first | (with_reducible first | exact HB.out | apply below_alloc | apply pw_below_drewN | apply below_drew1 | refine below_set ?_ GE108.out) | exact HB.out)⟩
                  · rw [if_neg c13] at H
                    exact absurd H (by simp)
                · rw [if_neg c12] at H
                  exact absurd H (by simp)
              · rw [if_neg c11] at H
                have c11b0 : decide (x22_2 < (l0_1.length : Int)) = false := decide_eq_false c11
                clear c11
                as_aux_lemma =>
                  simp only [Option.some.injEq, Prod.mk.injEq] at H
                  obtain ⟨rfl, rfl⟩ := H
                  go_wp2
                  go_ret2
                  exact ⟨by first | rfl | (simp [errW_none, errW_some] <;> rfl) | (simp [*, errW_none, errW_some] <;> rfl), by repeat (first | (with_reducible first | exact HB.out | apply below_alloc | apply pw_below_drewN | apply below_drew1 | refine below_set ?_ GE108.out) | exact HB.out)⟩

end Go.Proofs.Ytfcofpgehlmbbaa.P

-- Printed by wip/tools/pp.py of this claim's session (over the kit's print.py); Lean checks it.
namespace Go.Proofs.Ytfcofpgehlmbbaa.P
open Go.RowKit Go.Proofs.YtfcofpgehlmbbaaW.PrintWords Go.Proofs.YtfcofpgehlmbbaaW.PrintLast Go.Proofs.YtfcofpgehlmbbaaW.PrintMore
attribute [local go_sem] max2_int min2_int max_two min_two max_three min_three max_four min_four   -- for this text's walks alone
set_option linter.unusedVariables false
set_option linter.unusedSimpArgs false

-- SOLO
-- IMPORTS Derived.Test.YtfcofpgehlmbbaaPxAunitEng
/-! ### unit_Engine_lay: function 61 -/
/-- A literal stands in a clause more. -/
def Eng.wput (E : Eng) (n x : Int) : Eng := { E with wt := fun y => if y = x then E.wt x ++ [n] else E.wt y, ws := E.ws + 1 }
def Eng.layW (E : Eng) (n : Int) (c : List Int) : Eng := c.foldl (fun E x => E.wput n x) E
/-- A clause more, its literals rising. -/
def Eng.laid (E : Eng) (c : List Int) : Eng := { E.layW (E.cls.length : Int) c with cls := E.cls ++ [c] }
theorem Eng.layW_same (n : Int) : ∀ (c : List Int) (E : Eng), (E.layW n c).cls = E.cls ∧ (E.layW n c).tr = E.tr ∧ (E.layW n c).st = E.st ∧ (E.layW n c).ms = E.ms ∧ (E.layW n c).n = E.n ∧ (E.layW n c).br = E.br ∧ (E.layW n c).ws = E.ws + c.length
  | [], E => ⟨rfl, rfl, rfl, rfl, rfl, rfl, rfl⟩
  | x :: c, E => by
    obtain ⟨h1, h2, h3, h4, h5, h6, h7⟩ := Eng.layW_same n c (E.wput n x)
    exact ⟨h1, h2, h3, h4, h5, h6, by have : (Eng.layW E n (x :: c)).ws = (Eng.layW (E.wput n x) n c).ws := rfl; rw [this, h7]; show E.ws + 1 + c.length = E.ws + (c.length + 1); omega⟩
theorem Eng.layW_snoc (E : Eng) (n : Int) (c : List Int) (x : Int) : E.layW n (c ++ [x]) = (E.layW n c).wput n x := by
  unfold Eng.layW; rw [List.foldl_append]; rfl
set_option maxRecDepth 100000 in
set_option maxHeartbeats 4000000 in
theorem eng_lay.calls (E : Eng) (B : Nat) (T : Tag) (p : EngP) (A0 : Option Addr) (c0 : Nat) (l0 r1 : List Int) (r2 : Bool) (w : World) (h : EngIn w B T E p) (hr0 : Kd.C (Kd.int .i64) w A0 l0.length l0) (hc0 : l0.length ≤ c0) (hcl : lit_Clean.f l0 = some (r1, r2)) (hwf : ∀ x ∈ r1, (Lit.int .i64 x).wf = true) (hws : E.ws + r1.length < 4398046511104) (hcn : E.cls.length + 1 < 5864062014805) :
    Calls Try.prog 61 #[.pointer (some ⟨B, 0, none⟩), .slice A0 l0.length c0] w fun e w' => e = .returned (.tuple #[]) ∧ ∃ T' p', EngIn w' B T' (E.laid r1) p' ∧ Moved T T' w w' := by
  have HE := Aside0.mk h
  have HWF := Aside0.mk hwf
  have HSZ := Aside0.mk hws
  have HCN := Aside0.mk hcn
  have HCL := Aside0.mk (lit_Clean.calls A0 c0 l0 r1 r2 w hr0 hc0 hcl)
  clear h hwf hws hcn hr0 hcl
  go_enter Try.func61, Try.ntmps61
  go_wp2_with fail
  refine HCL.out.mono ?_
  rintro e' w1 ⟨v0, rfl, hR0, hb0⟩
  obtain ⟨h1, m1, hR1⟩ := HE.out.newrow hb0 hR0
  obtain ⟨T1, hT1⟩ : ∃ T1, retag T w v0 (3, 0) = T1 := ⟨_, rfl⟩
  rw [hT1] at h1 m1 hR1
  obtain ⟨A4, k4, rfl⟩ := Kd.R_slice hR1
  have H1 := Aside0.mk h1
  have M1 := Aside0.mk m1
  have R1 := Aside0.mk hR1
  have hbig := (Kd.R_reads' hR1).2.2.2.1
  clear h1 m1 hR1 hR0 hb0 HE HCL hT1
  obtain ⟨n, hn⟩ : ∃ n, E.cls.length = n := ⟨_, rfl⟩
  have HN := Aside0.mk hn
  go_wp2
  go_loopg [7, 15] r1.length (fun gg _ v15 wr => ∃ (j : Nat) (T1 : Tag) (p1 : EngP), v15 = .int .i64 (j : Int) ∧ Aside0 (j + gg = r1.length) ∧ Aside0 (EngIn wr B T1 (E.layW (n : Int) (r1.take j)) p1) ∧ Aside0 (Moved T T1 w wr) ∧ Aside0 (Kd.R (Kd.int .i64) 3 wr 0 (fun k => T1 k = (3, 0)) (.slice A4 r1.length k4) r1))
  case atStart => exact ⟨0, T1, p, rfl, ⟨by simp⟩, H1, M1, R1⟩
  case round =>
    clear H1 M1 R1
    obtain ⟨j, T1, p1, rfl, hg, HE, HM, HR⟩ := hrel
    obtain ⟨E1, hE1⟩ : ∃ E1, E.layW (n : Int) (r1.take j) = E1 := ⟨_, rfl⟩
    rw [hE1] at HE
    obtain ⟨s1, s2, s3, s4, s5, s6, s7⟩ := E.layW_same (n : Int) (r1.take j)
    rw [hE1] at s1 s7
    have HE1 := Aside0.mk hE1
    by_cases hlt : j < r1.length
    · obtain ⟨ad, e1, x1⟩ := Kd.at_int (Kd.R_reads' HR.out).2.2 (j : Int) (by omega) (by omega)
      cases e1
      obtain ⟨y, hy⟩ : ∃ y, r1[j] = y := ⟨_, rfl⟩
      have hrd : rd r1 (j : Int) = y := by simp [rd, hlt, hy]
      rw [hrd] at x1
      simp only [Int.toNat_natCast] at x1
      have HY := Aside0.mk (show r1.take (j + 1) = r1.take j ++ [y] by rw [List.take_add_one, List.getElem?_eq_getElem hlt, hy]; rfl)
      have HWF := Aside0.mk (HWF.out y (by rw [← hy]; exact List.getElem_mem hlt))
      have hb0 : Below wr.heap.size wr wr.drew := below_drew (Below.refl _ _)
      have hD := HE.out.below hb0
      have hRD := Kd.R_below HR.out hb0
      obtain ⟨A1, k1, e1⟩ := Kd.R_slice hD.cls
      have c2 := hD.cells.2.2.1
      have c1 := hD.cells.2.1
      rw [e1, hD.len, s1, hn] at c1
      have hgr := hD.grp y
      obtain ⟨Ag, kg, eg⟩ := Kd.R_slice hgr
      have cq := hD.wt.look Try.underlying3 Try.underlying90 (zero_rowL wr.drew) HWF.out
      rw [eg] at cq hgr
      have hws := hD.wsz y
      obtain ⟨ws, hws0⟩ : ∃ ws, E1.wt y = ws := ⟨_, rfl⟩
      rw [hws0] at cq hgr hws
      obtain ⟨N1, hN1⟩ : ∃ N1 : Nat, n = N1 := ⟨_, rfl⟩
      rw [hN1] at c1
      obtain ⟨L, hL, hLl⟩ := hD.cov
      have hsz := HSZ.out
      have htl : (r1.take j).length ≤ j := List.length_take_le _ _
      have HWS := Aside0.mk (show ws.length < 4398046511104 by omega)
      have hLn : L.length < 4398046511104 := by omega
      -- behind an alloc, and behind an append to the group
      have haft : ∀ w1, wr.drew.grownBy w1 (Value.slice Ag ws.length kg).ownBlock → w1.cell? ⟨B, 2, none⟩ = some (.map (some p1.bw)) ∧ w1.cell? ⟨B, 1, none⟩ = some (.slice A1 N1 k1) ∧ (Instr.lookup 90 (.map (some p1.bw)) (.int .i64 y) false).run Try.prog w1 = .ok (.slice Ag ws.length kg) w1 ∧ MapI Try.prog 3 w1 p1.bw p1.fw := fun w1 hg1 => by
        have hv := hgr.1
        have a2 := hD.after hv (tag_ne (by decide) _ _) hg1 2
        have a1 := hD.after hv (tag_ne (by decide) _ _) hg1 1
        have hM : MapI Try.prog 3 w1 p1.bw p1.fw := hD.wt.block (hg1.block _ hD.wt.lt (fun e => by have this : T1 p1.bw = (8, y) := hv _ e.symm; rw [hD.tW] at this; exact absurd (congrArg Prod.fst this) (show (7 : Int) ≠ 8 by decide)))
        refine ⟨a2.1, ?_, ?_, hM⟩
        · rw [a1.1]
          show some p1.vC = _
          rw [e1, hD.len, s1, hn, hN1]
        · have := hM.look Try.underlying3 Try.underlying90 (zero_rowL w1) HWF.out
          rw [this, eg, hws0]
      have hba : Below wr.drew.heap.size wr.drew (wr.drew.alloc (.cells #[.int .i64 (N1 : Int)] 3)) := below_alloc (Below.refl _ _) _
      have d2 := pw_cell_below hba c2
      have d1 := pw_cell_below hba c1
      have dq : (Instr.lookup 90 (.map (some p1.bw)) (.int .i64 y) false).run Try.prog (wr.drew.alloc (.cells #[.int .i64 (N1 : Int)] 3)) = .ok (.slice Ag ws.length kg) (wr.drew.alloc (.cells #[.int .i64 (N1 : Int)] 3)) := by
        have := (hD.below hba).wt.look Try.underlying3 Try.underlying90 (zero_rowL _) HWF.out
        rw [this, eg, hws0]
      have HAFT := Aside0.mk haft
      have HD := Aside0.mk hD
      have HG := Aside0.mk hgr
      have HRD := Aside0.mk hRD
      have HMD := Aside0.mk (HM.out.trans (Moved.of_below hb0))
      have HEG := Aside0.mk eg
      have HW0 := Aside0.mk hws0
      have HN1 := Aside0.mk hN1
      have P0 : ((0 : Int) ≤ (j : Int)) = True := eq_true (by omega)
      have P1 : ((j : Int) < (r1.length : Int)) = True := eq_true (by omega)
      have P2 : (j < r1.length) = True := eq_true hlt
      have hd : decide ((j : Int) < (r1.length : Int)) = true := decide_eq_true (by omega)
      clear haft hD hgr hRD eg hws0 hN1 hy hrd hba hb0 e1 hws s1 s2 s3 s4 s5 s6 s7 hE1 HE HM HR
      have HL := Aside0.mk hL
      clear hL
      go_wp2
      refine start_ (n := 19) (S := fun w' => w'.cell? ⟨B, 2, none⟩ = some (.map (some p1.bw)) ∧ w'.cell? ⟨B, 1, none⟩ = some (.slice A1 N1 k1) ∧ (Instr.lookup 90 (.map (some p1.bw)) (.int .i64 y) false).run Try.prog w' = .ok (.slice Ag ws.length kg) w') (ds := [18]) #[false, false, false, false, false, false, false, false, false, false, false, false, false, false, false, false, false, false, false] (by kernel_rfl) rfl rfl ⟨c2, c1, cq⟩ (fun hHeld => ?_)
      refine pure_ (i := 0) (N := some 19) (v := ?_) (a' := ?_) #[true, false, false, false, false, false, false, false, false, false, false, false, false, false, false, false, false, false, false] rfl rfl (by kernel_rfl) (fun _ _ _ h => h) (Or.inl ⟨by rfl, ?_⟩) ?_ ?_
      rotate_left
      · intro w'
        go_simp
        with_reducible rfl
      rotate_left
      · simp only [Act.put, List.setIfInBounds_toArray, List.set_cons_zero, List.set_cons_succ, i64_w, i32_w]
        rfl
      refine pure_ (i := 1) (N := some 20) (v := ?_) (a' := ?_) #[true, true, false, false, false, false, false, false, false, false, false, false, false, false, false, false, false, false, false] rfl rfl (by kernel_rfl) (fun _ _ _ h => h) (Or.inl ⟨by rfl, ?_⟩) ?_ ?_
      rotate_left
      · intro w'
        go_simp
        with_reducible rfl
      rotate_left
      · simp only [Act.put, List.setIfInBounds_toArray, List.set_cons_zero, List.set_cons_succ, i64_w, i32_w]
        rfl
      refine pure_ (i := 2) (N := some 21) (v := ?_) (a' := ?_) #[true, true, true, false, false, false, false, false, false, false, false, false, false, false, false, false, false, false, false] rfl rfl (by kernel_rfl) (fun _ _ _ h => h) (Or.inl ⟨by rfl, ?_⟩) ?_ ?_
      rotate_left
      · intro w'
        go_simp
        with_reducible rfl
      rotate_left
      · simp only [Act.put, List.setIfInBounds_toArray, List.set_cons_zero, List.set_cons_succ, i64_w, i32_w]
        rfl
      refine pure_ (i := 4) (N := some 23) (v := ?_) (a' := ?_) #[true, true, true, false, true, false, false, false, false, false, false, false, false, false, false, false, false, false, false] rfl rfl (by kernel_rfl) (fun _ _ _ h => h) (Or.inl ⟨by rfl, ?_⟩) ?_ ?_
      rotate_left
      · intro w'
        go_simp
        with_reducible rfl
      rotate_left
      · simp only [Act.put, List.setIfInBounds_toArray, List.set_cons_zero, List.set_cons_succ, i64_w, i32_w]
        rfl
      refine pure_ (i := 5) (N := some 24) (v := ?_) (a' := ?_) #[true, true, true, false, true, true, false, false, false, false, false, false, false, false, false, false, false, false, false] rfl rfl (by kernel_rfl) (fun _ _ _ h => h) (Or.inl ⟨by rfl, ?_⟩) ?_ ?_
      rotate_left
      · intro w'
        go_simp
        with_reducible rfl
      rotate_left
      · simp only [Act.put, List.setIfInBounds_toArray, List.set_cons_zero, List.set_cons_succ, i64_w, i32_w]
        rfl
      refine pure_ (i := 6) (N := some 25) (v := ?_) (a' := ?_) #[true, true, true, false, true, true, true, false, false, false, false, false, false, false, false, false, false, false, false] rfl rfl (by kernel_rfl) (fun _ _ _ h => h) (Or.inl ⟨by rfl, ?_⟩) ?_ ?_
      rotate_left
      · intro w'
        go_simp
        with_reducible rfl
      rotate_left
      · simp only [Act.put, List.setIfInBounds_toArray, List.set_cons_zero, List.set_cons_succ, i64_w, i32_w]
        rfl
      refine pure_ (i := 7) (N := some 26) (v := ?_) (a' := ?_) #[true, true, true, false, true, true, true, true, false, false, false, false, false, false, false, false, false, false, false] rfl rfl (by kernel_rfl) (fun _ _ _ h => h) (Or.inl ⟨by rfl, ?_⟩) ?_ ?_
      rotate_left
      · intro w'
        go_simp
        with_reducible rfl
      rotate_left
      · simp only [Act.put, List.setIfInBounds_toArray, List.set_cons_zero, List.set_cons_succ, i64_w, i32_w]
        rfl
      refine pure_ (i := 9) (N := some 28) (v := ?_) (a' := ?_) #[true, true, true, false, true, true, true, true, false, true, false, false, false, false, false, false, false, false, false] rfl rfl (by kernel_rfl) (fun _ _ _ h => h) (Or.inl ⟨by rfl, ?_⟩) ?_ ?_
      rotate_left
      · intro w'
        go_simp
        with_reducible rfl
      rotate_left
      · simp only [Act.put, List.setIfInBounds_toArray, List.set_cons_zero, List.set_cons_succ, i64_w, i32_w]
        rfl
      refine pure_ (i := 11) (N := some 30) (v := ?_) (a' := ?_) #[true, true, true, false, true, true, true, true, false, true, false, true, false, false, false, false, false, false, false] rfl rfl (by kernel_rfl) (fun _ _ _ h => h) (Or.inl ⟨by rfl, ?_⟩) ?_ ?_
      rotate_left
      · intro w'
        go_simp
        with_reducible rfl
      rotate_left
      · simp only [Act.put, List.setIfInBounds_toArray, List.set_cons_zero, List.set_cons_succ, i64_w, i32_w]
        rfl
      refine pure_ (i := 12) (N := some 31) (v := ?_) (a' := ?_) #[true, true, true, false, true, true, true, true, false, true, false, true, true, false, false, false, false, false, false] rfl rfl (by kernel_rfl) (fun _ _ _ h => h) (Or.inl ⟨by rfl, ?_⟩) ?_ ?_
      rotate_left
      · intro w'
        go_simp
        with_reducible rfl
      rotate_left
      · simp only [Act.put, List.setIfInBounds_toArray, List.set_cons_zero, List.set_cons_succ, i64_w, i32_w]
        rfl
      refine pure_ (i := 13) (N := some 32) (v := ?_) (a' := ?_) #[true, true, true, false, true, true, true, true, false, true, false, true, true, true, false, false, false, false, false] rfl rfl (by kernel_rfl) (fun _ _ _ h => h) (Or.inl ⟨by rfl, ?_⟩) ?_ ?_
      rotate_left
      · intro w'
        go_simp
        with_reducible rfl
      rotate_left
      · simp only [Act.put, List.setIfInBounds_toArray, List.set_cons_zero, List.set_cons_succ, i64_w, i32_w]
        rfl
      refine take_ (i := 3) (N := some 22) (v := ?_) (a' := ?_) #[true, true, true, true, true, true, true, true, false, true, false, true, true, true, false, false, false, false, false] rfl rfl (by kernel_rfl) (fun _ _ _ h => h) (Or.inl ⟨by rfl, ?_⟩) hHeld ?_ ?_
      rotate_left
      · rintro w' ⟨s0, s1, s2⟩
        go_simp
        with_reducible rfl
      rotate_left
      · simp only [Act.put, List.setIfInBounds_toArray, List.set_cons_zero, List.set_cons_succ, i64_w, i32_w]
        rfl
      refine take_ (i := 8) (N := some 27) (v := ?_) (a' := ?_) #[true, true, true, true, true, true, true, true, true, true, false, true, true, true, false, false, false, false, false] rfl rfl (by kernel_rfl) (fun _ _ _ h => h) (Or.inl ⟨by rfl, ?_⟩) hHeld ?_ ?_
      rotate_left
      · rintro w' ⟨s0, s1, s2⟩
        go_simp
        with_reducible rfl
      rotate_left
      · simp only [Act.put, List.setIfInBounds_toArray, List.set_cons_zero, List.set_cons_succ, i64_w, i32_w]
        rfl
      refine take_ (i := 10) (N := some 29) (v := ?_) (a' := ?_) #[true, true, true, true, true, true, true, true, true, true, true, true, true, true, false, false, false, false, false] rfl rfl (by kernel_rfl) (fun _ _ _ h => h) (Or.inl ⟨by rfl, ?_⟩) hHeld ?_ ?_
      rotate_left
      · rintro w' ⟨s0, s1, s2⟩
        go_simp
        with_reducible rfl
      rotate_left
      · simp only [Act.put, List.setIfInBounds_toArray, List.set_cons_zero, List.set_cons_succ, i64_w, i32_w]
        rfl
      refine take_ (i := 14) (N := some 33) (v := ?_) (a' := ?_) #[true, true, true, true, true, true, true, true, true, true, true, true, true, true, true, false, false, false, false] rfl rfl (by kernel_rfl) (fun _ _ _ h => h) (Or.inl ⟨by rfl, ?_⟩) hHeld ?_ ?_
      rotate_left
      · rintro w' ⟨s0, s1, s2⟩
        go_simp
        with_reducible rfl
      rotate_left
      · simp only [Act.put, List.setIfInBounds_toArray, List.set_cons_zero, List.set_cons_succ, i64_w, i32_w]
        rfl
      refine pure_ (i := 15) (N := some 34) (v := ?_) (a' := ?_) #[true, true, true, true, true, true, true, true, true, true, true, true, true, true, true, true, false, false, false] rfl rfl (by kernel_rfl) (fun _ _ _ h => h) (Or.inl ⟨by rfl, ?_⟩) ?_ ?_
      rotate_left
      · intro w'
        go_simp
        with_reducible rfl
      rotate_left
      · simp only [Act.put, List.setIfInBounds_toArray, List.set_cons_zero, List.set_cons_succ, i64_w, i32_w]
        rfl
      refine one_ (i := 16) (N := some 35) #[true, true, true, true, true, true, true, true, true, true, true, true, true, true, true, true, true, false, false] rfl rfl (by kernel_rfl) (by decide) (fun K hK => ?_)
      refine value_ (w1 := ?_) (v := ?_) (by rfl) rfl ?_ ?_
      rotate_left 2
      · go_simp
        constructor
        · rfl
        · rfl
      refine hK.out _ _ ⟨d2, d1, dq⟩ (fun hHeld => ?_)
      clear hK K
      refine norm_ (a' := ?_) ?_ ?_
      rotate_left
      · show Act.put _ (some 35) _ = _
        simp only [Act.put, List.setIfInBounds_toArray, List.set_cons_zero, List.set_cons_succ, i64_w, i32_w]
        rfl
      refine one_ (i := 17) (N := some 36) #[true, true, true, true, true, true, true, true, true, true, true, true, true, true, true, true, true, true, false] rfl rfl (by kernel_rfl) (by decide) (fun K hK => ?_)
      refine Kd.R_append_step (Kd.int .i64) (w0 := wr.drew) (W := wr.drew) 0 (by rfl) (.tmp 29) (.tmp 35) 33 3 (.int .i64 0) 8 rfl Try.underlying33 (by kernel_rfl) rfl (by decide) (by decide) (.slice Ag ws.length kg) ws (N1 : Int) [.int .i64 (N1 : Int)] (fun k => T1 k = (8, y) ∨ wr.drew.heap.size ≤ k) (fun _ => False) (by rfl) (by rfl) rfl (fun _ h => h.elim) (fun k hk => .inr hk) (Kd.R_mono HG.out (fun _ hk => .inl hk)) (Below.refl 0 _) (Nat.zero_le _) (by have := HWS.out; omega) ?_
      intro v1 w1 r1' hb1 hg1 hat1
      obtain ⟨f2, f1, fq, hMw⟩ := HAFT.out w1 hg1
      refine hK.out _ _ ⟨f2, f1, fq⟩ (fun hHeld => ?_)
      clear hK K
      refine norm_ (a' := ?_) ?_ ?_
      rotate_left
      · show Act.put _ (some 36) _ = _
        simp only [Act.put, List.setIfInBounds_toArray, List.set_cons_zero, List.set_cons_succ, i64_w, i32_w]
        rfl
      refine last_ (i := 18) (N := none) #[true, true, true, true, true, true, true, true, true, true, true, true, true, true, true, true, true, true, true] rfl rfl (by kernel_rfl) (by decide) (fun K hK => ?_)
      refine step_store_I (by rfl) (.tmp 22) (.tmp 23) (.tmp 36) 90 rfl 3 33 Try.underlying3 Try.underlying90 p1.bw p1.fw (by rfl) hMw y v1 (by rfl) (by rfl) HWF.out L HL.out (by omega) ?_
      intro w2 hM2 hg2
      refine hK.out _ _ ?_
      clear hK K
      refine done_ (by kernel_rfl) ?_
      have hgw : wr.drew.grownBy w1 ((p1.fw y).getD (.slice none 0 0)).ownBlock := by rw [HEG.out, HW0.out]; exact hg1
      obtain ⟨T2, p2, h2, m2, hk2⟩ : ∃ T2 p2, EngIn w2 B T2 { E1 with wt := fun y' => if y' = y then ws ++ [(N1 : Int)] else E1.wt y', ws := E1.ws + 1 } p2 ∧ Moved T1 T2 wr.drew w2 ∧ (∀ {v : Value} {zs : List Int}, Kd.R (Kd.int .i64) 3 wr.drew 0 (fun k => T1 k = (3, 0)) v zs → Kd.R (Kd.int .i64) 3 w2 0 (fun k => T2 k = (3, 0)) v zs) := ⟨_, _, HD.out.turn_wt r1' hgw hM2 hg2 (by have := HD.out.wsz y; rw [HW0.out] at this; simp; omega)⟩
      have H2 := Aside0.mk h2
      have M2 := Aside0.mk (HMD.out.trans m2)
      have R2 := Aside0.mk (hk2 HRD.out)
      clear h2 m2 hk2 r1' hgw hM2 hg2 hg1 hb1 hat1 hMw f2 f1 fq
      go_wp2
      go_roundg (r1.length - (j + 1))
      case measure => have := hg.out; omega
      case rel =>
        refine ⟨j + 1, T2, p2, by simp, ⟨by have := hg.out; omega⟩, ?_, M2, R2⟩
        have h := H2.out
        rw [HY.out, Eng.layW_snoc, HE1.out]
        refine ⟨?_⟩
        unfold Eng.wput
        rw [HW0.out, HN1.out]
        exact h
    · have hd : decide ((j : Int) < (r1.length : Int)) = false := decide_eq_false (by omega)
      have P2 : (j < r1.length) = False := eq_false hlt
      have htk : r1.take j = r1 := List.take_of_length_le (by omega)
      rw [htk] at hE1
      clear s1 s2 s3 s4 s5 s6 s7 HE1
      obtain ⟨s1, s2, s3, s4, s5, s6, s7⟩ := E.layW_same (n : Int) r1
      rw [hE1] at s1 s7
      have c1 := HE.out.cells.2.1
      have f1 := HE.out.cells.2.2.2.2.2.2.2 1
      have HE1 := Aside0.mk hE1
      have HS1 := Aside0.mk s1
      have hcn := HCN.out
      have hl : p1.hs.length + 1 < 5864062014805 := by rw [HE.out.len, s1]; exact hcn
      have HLN := Aside0.mk hl
      clear s1 s2 s3 s4 s5 s6 s7 hE1 htk hl
      go_wp2_with (at_builtin; refine Kd.R_append kH (w0 := wr) 0 rfl (.tmp 42) (.tmp 44) 22 33 (.slice none 0 0) 24 rfl Try.underlying22 (by kernel_rfl) rfl (by decide) (by decide) p1.vC p1.hs ((A4, r1.length, k4) : Hd) [.slice A4 r1.length k4] (fun k => T1 k = (2, 0) ∨ wr.heap.size ≤ k) (fun _ => False) rfl rfl rfl (fun _ h => h.elim) (fun k hk => .inr hk) (Kd.R_mono HE.out.cls (fun _ hk => .inl hk)) (Below.refl 0 _) (Nat.zero_le _) (by have := HLN.out; omega) ?_; intro v1 w1 rr hb1 hg1 hat1; obtain ⟨A1, k1, e1⟩ := Kd.R_slice rr; rw [List.length_append, List.length_singleton] at e1; subst e1; obtain ⟨c31, f31⟩ : w1.cell? ⟨B, 1, none⟩ = some p1.vC ∧ w1.frozen? ⟨B, 1, none⟩ = false := HE.out.after HE.out.cls.1 (by decide) hg1 1)
      go_end0
      obtain ⟨a1, a2⟩ := HE.out.turn_cls (a := (A4, r1.length, k4)) HR.out rr hg1
      have e : ({ E1 with cls := E1.cls ++ [r1] } : Eng) = E.laid r1 := by
        unfold Eng.laid
        rw [HN.out, HE1.out, HS1.out]
      rw [e] at a1
      exact ⟨rfl, _, _, a1, HM.out.trans a2⟩
theorem Eng.laid_same (E : Eng) (c : List Int) : (E.laid c).br = E.br ∧ (E.laid c).tr = E.tr ∧ (E.laid c).cls = E.cls ++ [c] ∧ (E.laid c).st = E.st ∧ (E.laid c).n = E.n ∧ (E.laid c).ms = E.ms ∧ (E.laid c).ws = E.ws + c.length := by
  obtain ⟨h1, h2, h3, h4, h5, h6, h7⟩ := E.layW_same (E.cls.length : Int) c
  exact ⟨h6, h2, rfl, h3, h5, h4, h7⟩
theorem Eng.laid_lits {E : Eng} {c : List Int} (h : E.Lits) (hc : ∀ x ∈ c, (Lit.int .i64 x).wf = true) : (E.laid c).Lits := fun d hd => by
  rw [(E.laid_same c).2.2.1] at hd
  rcases List.mem_append.1 hd with hd | hd
  · exact h d hd
  · rw [List.mem_singleton.1 hd]; exact hc


end Go.Proofs.Ytfcofpgehlmbbaa.P

-- Printed by wip/tools/pp.py of this claim's session (over the kit's print.py); Lean checks it.
namespace Go.Proofs.Ytfcofpgehlmbbaa.P
open Go.RowKit Go.Proofs.YtfcofpgehlmbbaaW.PrintWords Go.Proofs.YtfcofpgehlmbbaaW.PrintLast Go.Proofs.YtfcofpgehlmbbaaW.PrintMore
attribute [local go_sem] max2_int min2_int max_two min_two max_three min_three max_four min_four   -- for this text's walks alone
set_option linter.unusedVariables false
set_option linter.unusedSimpArgs false

-- SOLO
-- IMPORTS Derived.Test.YtfcofpgehlmbbaaPxAunitEng
/-! ### unit_Engine_settle: function 62 -/
/-- Clauses looked at from one on, as long as nothing is broken. -/
def Eng.scan : Nat → Nat → Eng → Option Eng
  | 0, _, E => some E
  | m + 1, n, E => if E.br < 0 then (if E.tr.length < 4398046511104 then Eng.scan m (n + 1) (E.look n) else none) else some E
/-- It goes on, all clauses looked at first. -/
def Eng.settle (k : Nat) (E : Eng) : Option Eng := (Eng.scan E.cls.length 0 E).bind fun E' => Eng.follow k E' E.tr.length
set_option maxRecDepth 100000 in
set_option maxHeartbeats 4000000 in
theorem eng_settle.calls (k : Nat) (E : Eng) (B : Nat) (T : Tag) (p : EngP) (E2 : Eng) (w : World) (h : EngIn w B T E p) (hlit : E.Lits) (hf : Eng.settle k E = some E2) :
    Calls Try.prog 62 #[.pointer (some ⟨B, 0, none⟩)] w fun e w' => e = .returned (.tuple #[]) ∧ EngPost B T p E2 w w' := by
  unfold Eng.settle at hf
  obtain ⟨E3, hsc, hf⟩ := Option.bind_eq_some_iff.mp hf
  have c3 := h.cells.2.2.2.1
  obtain ⟨A3, n3, e3⟩ := Kd.R_slice h.tr
  rw [e3] at c3
  obtain ⟨N, hN⟩ : ∃ N, E.cls.length = N := ⟨_, rfl⟩
  rw [hN] at hsc
  have HE := Aside0.mk h
  have HL := Aside0.mk hlit
  have HF := Aside0.mk hf
  have HS := Aside0.mk hsc
  have HN := Aside0.mk hN
  have hNb : N ≤ 9223372036854775807 := by obtain ⟨A1, k1, e1⟩ := Kd.R_slice h.cls; have := h.cls; rw [e1] at this; have := (Kd.R_reads' this).2.2.2.1; rw [← hN, ← h.len]; exact this
  obtain ⟨tl, htl⟩ : ∃ tl, E.tr.length = tl := ⟨_, rfl⟩
  rw [htl] at c3 HF
  clear h hlit hf hsc hN e3 htl
  go_enter Try.func62, Try.ntmps62
  go_wp2
  go_loopg [3] N (fun gg v3 wr => ∃ (n : Nat) (E1 : Eng) (T1 : Tag) (p1 : EngP), v3 = .int .i64 (n : Int) ∧ Aside0 (n + gg = N) ∧ Aside0 (EngIn wr B T1 E1 p1) ∧ Aside0 (Moved T T1 w wr) ∧ Aside0 (p1.fw = p.fw) ∧ Aside0 (E1.Lits) ∧ Aside0 (E1.cls.length = N) ∧ Aside0 (Eng.scan gg n E1 = some E3))
  case atStart => exact ⟨0, E, T, p, rfl, ⟨by simp⟩, HE, ⟨Moved.refl _ _⟩, ⟨rfl⟩, HL, HN, HS⟩
  case round =>
    clear HE HL HS HN c3
    obtain ⟨n, E1, T1, p1, rfl, hg, HE, HM, HP, HL, HN, HS⟩ := hrel
    have c1 := HE.out.cells.2.1
    have c6 := HE.out.cells.2.2.2.2.2.2.1
    obtain ⟨A1, k1, e1⟩ := Kd.R_slice HE.out.cls
    rw [e1, HE.out.len, HN.out] at c1
    have fin : ∀ {E4 : Eng} {T4 : Tag} {p4 : EngP} {W4 : World}, EngIn W4 B T4 E4 p4 → E4 = E3 → E4.Lits → Calls Try.prog 77 #[.pointer (some ⟨B, 0, none⟩), .int .i64 (tl : Int)] W4 fun e w' => e = .returned (.tuple #[]) ∧ EngPost B T4 p4 E2 W4 w' := fun h4 e4 l4 => eng_follow.calls k _ B _ _ tl E2 _ h4 l4 (by rw [e4]; exact HF.out)
    by_cases hlt : n < N
    · obtain ⟨m, hm⟩ : ∃ m, gk = m + 1 := ⟨gk - 1, by have := hg.out; omega⟩
      have hs := HS.out
      rw [hm, Eng.scan] at hs
      have P0 : ((n : Int) < (N : Int)) = True := eq_true (by omega)
      have P2 : (n < N) = True := eq_true hlt
      have hd : decide ((n : Int) < (N : Int)) = true := decide_eq_true (by omega)
      by_cases hb : E1.br < 0
      · rw [if_pos hb] at hs
        by_cases hl : E1.tr.length < 4398046511104
        · rw [if_pos hl] at hs
          have hnl : n < E1.cls.length := by rw [HN.out]; exact hlt
          have HCALL := Aside0.mk (eng_look.calls E1 B T1 p1 n wr HE.out hnl (HL.out _ (List.getElem_mem hnl)) hl)
          have HS2 := Aside0.mk hs
          have HM1 := Aside0.mk hm
          have hd2 : decide (E1.br < 0) = true := decide_eq_true hb
          clear hs hb hl hnl e1 fin hm HS
          go_wp2_with fail
          refine HCALL.out.mono ?_
          rintro e' w5 ⟨rfl, T5, p5, h5, m5, f5⟩
          have H5 := Aside0.mk h5
          have M5 := Aside0.mk (HM.out.trans m5)
          have F5 := Aside0.mk (f5.trans HP.out)
          obtain ⟨l1, l2, _⟩ := E1.look_cls n
          have L5 : Aside0 (E1.look n).Lits := ⟨by unfold Eng.Lits; rw [l1]; exact HL.out⟩
          have N5 : Aside0 ((E1.look n).cls.length = N) := ⟨by rw [l1]; exact HN.out⟩
          clear h5 m5 f5 l1 l2 HCALL
          go_wp2
          go_roundg m
          case measure => have := HM1.out; omega
          case rel => exact ⟨n + 1, E1.look n, T5, p5, by simp, ⟨by have := hg.out; have := HM1.out; omega⟩, H5, M5, F5, L5, N5, HS2⟩
        · rw [if_neg hl] at hs; cases hs
      · rw [if_neg hb] at hs
        have HCALL := Aside0.mk (fin HE.out (Option.some.inj hs) HL.out)
        have hd2 : decide (E1.br < 0) = false := decide_eq_false hb
        clear hs hb e1 fin hm HS
        go_wp2_with fail
        refine HCALL.out.mono ?_
        rintro e' w5 ⟨rfl, T5, p5, h5, m5, f5⟩
        have H5 := Aside0.mk h5
        have M5 := Aside0.mk (HM.out.trans m5)
        have F5 := Aside0.mk (f5.trans HP.out)
        clear h5 m5 f5 HCALL
        go_wp2
        go_end0
        exact ⟨rfl, T5, p5, H5.out, M5.out, F5.out⟩
    · have hs := HS.out
      have hm : gk = 0 := by have := hg.out; omega
      rw [hm, Eng.scan] at hs
      have HCALL := Aside0.mk (fin HE.out (Option.some.inj hs) HL.out)
      have hd : decide ((n : Int) < (N : Int)) = false := decide_eq_false (by omega)
      have P2 : (n < N) = False := eq_false hlt
      clear hs e1 fin hm HS
      go_wp2_with fail
      refine HCALL.out.mono ?_
      rintro e' w5 ⟨rfl, T5, p5, h5, m5, f5⟩
      have H5 := Aside0.mk h5
      have M5 := Aside0.mk (HM.out.trans m5)
      have F5 := Aside0.mk (f5.trans HP.out)
      clear h5 m5 f5 HCALL
      go_wp2
      go_end0
      exact ⟨rfl, T5, p5, H5.out, M5.out, F5.out⟩


end Go.Proofs.Ytfcofpgehlmbbaa.P

-- Printed by wip/tools/pp.py of this claim's session (over the kit's print.py); Lean checks it.
namespace Go.Proofs.Ytfcofpgehlmbbaa.P
open Go.RowKit Go.Proofs.YtfcofpgehlmbbaaW.PrintWords Go.Proofs.YtfcofpgehlmbbaaW.PrintLast Go.Proofs.YtfcofpgehlmbbaaW.PrintMore
attribute [local go_sem] max2_int min2_int max_two min_two max_three min_three max_four min_four   -- for this text's walks alone
set_option linter.unusedVariables false
set_option linter.unusedSimpArgs false

-- SOLO
-- IMPORTS Derived.Test.YtfcofpgehlmbbaaPxAunitEng
/-! ### unit_New: function 16 -/
/-- An engine without clauses. -/
def Eng.fresh (n : Int) : Eng := ⟨n, [], fun _ => [], 0, [], fun _ => none, [], -1⟩
/-- Clauses more. -/
def Eng.lays : List (List Int) → Eng → Option Eng
  | [], E => some E
  | c :: l, E => (lit_Clean.f c).bind fun r => if E.ws + r.1.length < 4398046511104 ∧ E.cls.length + 1 < 5864062014805 then Eng.lays l (E.laid r.1) else none
/-- An engine of clauses that has gone on. -/
def Eng.new (k : Nat) (n : Int) (l : List (List Int)) : Option (Eng × Int) :=
  (cnf_Right.f k n l).bind fun r => if r.2 ≠ 0 then some (Eng.fresh n, r.2) else (Eng.lays l (Eng.fresh n)).bind fun E => (Eng.settle k E).bind fun E2 => some (E2, 0)
def NewPost (E : Eng) (B : Nat) (w w' : World) : Prop := ∃ T p, EngIn w' B T E p ∧ Below w.heap.size w w' ∧ ∀ k, k < w.heap.size → T k = (0, 0)
def newT (B : Nat) : Tag := fun k => if k = B then (1, 0) else if k + 1 = B then (6, 0) else if k + 2 = B then (7, 0) else (0, 0)
theorem EngIn.new {W W' : World} (n : Int) (hb : Below (W.heap.size + 2) ((W.alloc (.map #[] 0)).alloc (.map #[] 0)) W') (hx : W'.heap[W.heap.size + 2]? = some (.cells #[.int .i64 n, .slice none 0 0, .map (some W.heap.size), .slice none 0 0, .map (some (W.heap.size + 1)), .slice none 0 0, .int .i64 (-1)] 93 (0, 0))) :
    EngIn W' (W.heap.size + 2) (newT (W.heap.size + 2)) (Eng.fresh n) ⟨.slice none 0 0, [], .slice none 0 0, .slice none 0 0, W.heap.size, W.heap.size + 1, fun _ => none⟩ := by
  have hlt := blk_lt hx
  have m1 : MapI Try.prog 3 W' W.heap.size (fun _ => none) := by
    have h0 := MapI.made W Try.prog 3
    have h1 := h0.block (w' := (W.alloc (.map #[] 0)).alloc (.map #[] 0)) ((below_alloc (Below.refl _ _) _).block _ h0.lt)
    exact h1.block (hb.block _ (by have := h0.lt; omega))
  have m2 : MapI Try.prog 3 W' (W.heap.size + 1) (fun _ => none) := by
    have h0 := MapI.made (W.alloc (.map #[] 0)) Try.prog 3
    have e1 : (W.alloc (.map #[] 0)).heap.size = W.heap.size + 1 := by simp
    rw [e1] at h0
    exact h0.block (hb.block _ (by omega))
  have t2 : newT (W.heap.size + 2) (W.heap.size + 1) = (6, 0) := by unfold newT; rw [if_neg (by omega), if_pos (by omega)]
  have t3 : newT (W.heap.size + 2) W.heap.size = (7, 0) := by unfold newT; rw [if_neg (by omega), if_neg (by omega), if_pos rfl]
  exact { fresh := fun k hk => by unfold newT; rw [if_neg (by omega), if_neg (by omega), if_neg (by omega)], blk := hx, tB := by unfold newT; rw [if_pos rfl], cls := Kd.R_nil _ _ _ _ _, len := rfl, rows := fun i a c ha => by simp at ha, tr := Kd.R_nil _ _ _ _ _, st := Kd.R_nil _ _ _ _ _, ms := m2, tM := t2, mst := fun x hx => by simp [Eng.fresh] at hx, wt := m1, tW := t3, grp := fun x => Kd.R_nil _ _ _ _ _, cov := ⟨[], fun x hx => by simp at hx, by simp [Eng.fresh]⟩, wsz := fun x => by simp [Eng.fresh] }
set_option maxRecDepth 100000 in
set_option maxHeartbeats 4000000 in
theorem eng_New.calls (k : Nat) (n : Int) (A0 : Option Addr) (c0 : Nat) (l0 : List (List Int)) (E2 : Eng) (w : World) (hr0 : Kd.C (Kd.slice 3 (Kd.int .i64)) w A0 l0.length l0) (hc0 : l0.length ≤ c0) (hwf : ∀ c ∈ l0, ∀ r, lit_Clean.f c = some r → ∀ x ∈ r.1, (Lit.int .i64 x).wf = true) (hf : Eng.new k n l0 = some (E2, 0)) :
    Calls Try.prog 16 #[.agg #[.int .i64 n, .slice A0 l0.length c0]] w fun e w' => ∃ B, e = .returned (.tuple #[.pointer (some ⟨B, 0, none⟩), .int .i64 0]) ∧ NewPost E2 B w w' := by
  unfold Eng.new at hf
  obtain ⟨⟨ra, re⟩, hcr, hf⟩ := Option.bind_eq_some_iff.mp hf
  have hre : re = 0 := by
    by_cases h : re = 0
    · exact h
    · replace hf : (if re ≠ 0 then some (Eng.fresh n, re) else (Eng.lays l0 (Eng.fresh n)).bind fun E => (Eng.settle k E).bind fun E2 => some (E2, 0)) = some (E2, (0 : Int)) := hf
      rw [if_pos h] at hf
      simp only [Option.some.injEq, Prod.mk.injEq] at hf
      exact hf.2
  subst hre
  replace hf : ((Eng.lays l0 (Eng.fresh n)).bind fun E => (Eng.settle k E).bind fun E2 => some (E2, 0)) = some (E2, (0 : Int)) := hf
  obtain ⟨E3, hl, hf⟩ := Option.bind_eq_some_iff.mp hf
  obtain ⟨E4, hs, hf⟩ := Option.bind_eq_some_iff.mp hf
  simp only [Option.some.injEq, Prod.mk.injEq] at hf
  obtain ⟨rfl, -⟩ := hf
  have HR := Aside0.mk hr0
  have HC := Aside0.mk hc0
  have HWF := Aside0.mk hwf
  have HL := Aside0.mk hl
  have HS := Aside0.mk hs
  have HCR := Aside0.mk hcr
  have hu24 := Try.underlying24
  have hu93 := Try.underlying93
  clear hr0 hc0 hwf hl hs hcr
  have HB := Aside0.mk (Below.refl w.heap.size w)
  go_enter Try.func16, Try.ntmps16
  go_upto_region 1 with (first | ((with_reducible refine gate_dst (N := 1) rfl ?_); refine box_event ?hg (N := 1) ?hd (cs := #[.int .i64 n, .slice A0 l0.length c0]) (t := 24) ?hr ?_; (case hd => rfl); (case hg => rfl); (case hr => first | (go_simp; done) | (go_simp; rfl)); intro gb108 hg w3 hbox hb; have n0_ := Aside0.mk (below_step HB.out hb); have BK := Aside0.mk hbox; have GE := Aside0.mk (by rw [hg]; exact (below_size HB.out) : w.heap.size ≤ gb108); clear HB; have HB := n0_; clear n0_; clear hb hbox hg))
  (try simp only [Act.put, List.setIfInBounds_toArray, List.set_cons_zero, List.set_cons_succ])
  have cb0 : w3.cell? ⟨gb108, 0, none⟩ = some (.int .i64 n) := (blk_cell BK.out 0).trans rfl
  have cb1 : w3.cell? ⟨gb108, 1, none⟩ = some (.slice A0 l0.length c0) := (blk_cell BK.out 1).trans rfl
  have HCALL := Aside0.mk (cnf_Right.calls k n A0 c0 l0 ra 0 w3 (Kd.C_below HR.out HB.out) HC.out HCR.out)
  go_wp2_with fail
  refine HCALL.out.mono ?_
  rintro e' w1 ⟨rfl, hb1⟩
  have BK1 := Aside0.mk (blk_below BK.out hb1)
  have HB1 := Aside0.mk (below_step HB.out hb1)
  clear hb1 HCALL BK HB cb0 cb1
  have cb0 : w1.cell? ⟨gb108, 0, none⟩ = some (.int .i64 n) := (blk_cell BK1.out 0).trans rfl
  have cb1 : w1.cell? ⟨gb108, 1, none⟩ = some (.slice A0 l0.length c0) := (blk_cell BK1.out 1).trans rfl
  have hmm := @run_makeMap Try.prog
  have e2 : ((w1.alloc (.map #[] 0)).alloc (.map #[] 0)).heap.size = w1.heap.size + 1 + 1 := by simp
  have hx := blk_new ((w1.alloc (.map #[] 0)).alloc (.map #[] 0)) (.cells #[.int .i64 n, .slice none 0 0, .map (some w1.heap.size), .slice none 0 0, .map (some (w1.heap.size + 1)), .slice none 0 0, .int .i64 (-1)] 93)
  rw [e2] at hx
  obtain ⟨W4, hW4⟩ : ∃ W4, ((w1.alloc (.map #[] 0)).alloc (.map #[] 0)).alloc (.cells #[.int .i64 n, .slice none 0 0, .map (some w1.heap.size), .slice none 0 0, .map (some (w1.heap.size + 1)), .slice none 0 0, .int .i64 (-1)] 93) = W4 := ⟨_, rfl⟩
  have hb4 : Below w1.heap.size w1 W4 := by rw [← hW4]; exact below_alloc (below_alloc (below_alloc (Below.refl _ _) _) _) _
  have hb3 : Below (w1.heap.size + 2) ((w1.alloc (.map #[] 0)).alloc (.map #[] 0)) W4 := by
    have := below_alloc (Below.refl ((w1.alloc (.map #[] 0)).alloc (.map #[] 0)).heap.size ((w1.alloc (.map #[] 0)).alloc (.map #[] 0))) (.cells #[.int .i64 n, .slice none 0 0, .map (some w1.heap.size), .slice none 0 0, .map (some (w1.heap.size + 1)), .slice none 0 0, .int .i64 (-1)] 93)
    rw [e2, hW4] at this
    exact this
  rw [hW4] at hx
  have cb2 := (blk_cell (blk_below BK1.out hb4) 1).trans rfl
  rw [← hW4] at cb2
  have H0 := Aside0.mk (EngIn.new n hb3 hx)
  have HB4 := Aside0.mk (below_step HB1.out hb4)
  have T0 : Aside0 (∀ k, k < w.heap.size → newT (w1.heap.size + 2) k = (0, 0)) := ⟨fun k hk => by
    have := HB1.out.size
    unfold newT
    rw [if_neg (by omega), if_neg (by omega), if_neg (by omega)]⟩
  rw [← hW4] at H0 HB4
  clear hx hb3 hb4 e2 hW4
  have hbig : l0.length ≤ 9223372036854775807 := HR.out.2.1
  go_wp2
  go_loopg [8, 26] l0.length (fun gg _ v26 wr => ∃ (j : Nat) (E1 : Eng) (T1 : Tag) (p1 : EngP), v26 = .int .i64 (j : Int) ∧ Aside0 (j + gg = l0.length) ∧ Aside0 (EngIn wr (w1.heap.size + 1 + 1) T1 E1 p1) ∧ Aside0 (Below w.heap.size w wr) ∧ Aside0 (∀ k, k < w.heap.size → T1 k = (0, 0)) ∧ Aside0 E1.Lits ∧ Aside0 (Eng.lays (l0.drop j) E1 = some E3))
  case atStart => exact ⟨0, _, _, _, rfl, ⟨by simp⟩, H0, HB4, T0, ⟨fun c hc => by simp [Eng.fresh] at hc⟩, HL⟩
  case round =>
    clear H0 HB4 T0 HL cb0 cb1 cb2 hmm
    obtain ⟨j, E1, T1, p1, rfl, hg, HE, HBw, HT, HLI, HLY⟩ := hrel
    by_cases hlt : j < l0.length
    · obtain ⟨c, hc⟩ : ∃ c, l0[j] = c := ⟨_, rfl⟩
      have hrd : rd_L3 l0 (j : Int) = c := by unfold rd_L3; rw [Int.toNat_natCast, List.getD_eq_getElem?_getD, List.getElem?_eq_getElem hlt, hc]; rfl
      have hly := HLY.out
      rw [List.drop_eq_getElem_cons hlt, hc] at hly
      replace hly : ((lit_Clean.f c).bind fun r => if E1.ws + r.1.length < 4398046511104 ∧ E1.cls.length + 1 < 5864062014805 then Eng.lays (l0.drop (j + 1)) (E1.laid r.1) else none) = some E3 := hly
      obtain ⟨⟨q1, q2⟩, hcl, hly⟩ := Option.bind_eq_some_iff.mp hly
      replace hly : (if E1.ws + q1.length < 4398046511104 ∧ E1.cls.length + 1 < 5864062014805 then Eng.lays (l0.drop (j + 1)) (E1.laid q1) else none) = some E3 := hly
      by_cases hq : E1.ws + q1.length < 4398046511104 ∧ E1.cls.length + 1 < 5864062014805
      · rw [if_pos hq] at hly
        obtain ⟨ad, A1, c1, e1, x1, l1, i1⟩ := at_L3 HR.out (j : Int) (by omega) (by omega)
        cases e1
        rw [hrd] at x1 l1 i1
        have x2 := (HBw.out.cell (World.block_lt_of_cell? w _ x1)).trans x1
        simp only [Int.toNat_natCast] at x2
        have hwfc := HWF.out c (by rw [← hc]; exact List.getElem_mem hlt) (q1, q2) hcl
        have HCALL := Aside0.mk (eng_lay.calls E1 _ T1 p1 A1 c1 c q1 q2 wr HE.out (Kd.C_below i1 HBw.out) l1 hcl hwfc hq.1 hq.2)
        have P0 : ((0 : Int) ≤ (j : Int)) = True := eq_true (by omega)
        have P1 : ((j : Int) < (l0.length : Int)) = True := eq_true (by omega)
        have P2 : (j < l0.length) = True := eq_true hlt
        have hd : decide ((j : Int) < (l0.length : Int)) = true := decide_eq_true (by omega)
        have HLY2 := Aside0.mk hly
        have HLI2 := Aside0.mk (Eng.laid_lits HLI.out hwfc)
        clear hly hq x1 l1 i1 hrd hwfc hcl hc HLY
        go_wp2_with fail
        refine HCALL.out.mono ?_
        rintro e' w5 ⟨rfl, T5, p5, h5, m5⟩
        have H5 := Aside0.mk h5
        have HB5 := Aside0.mk (Below.trans HBw.out (m5.below _ HBw.out.size HT.out))
        have HT5 := Aside0.mk (show ∀ k, k < w.heap.size → T5 k = (0, 0) from fun k hk => ((m5.old k (Nat.lt_of_lt_of_le hk HBw.out.size)).1.trans (HT.out k hk)))
        clear h5 m5 HCALL x2
        go_wp2
        go_roundg (l0.length - (j + 1))
        case measure => have := hg.out; omega
        case rel => exact ⟨j + 1, _, T5, p5, by simp, ⟨by have := hg.out; omega⟩, H5, HB5, HT5, HLI2, HLY2⟩
      · rw [if_neg hq] at hly; cases hly
    · have hj : l0.drop j = [] := List.drop_eq_nil_of_le (by omega)
      have hly := HLY.out
      rw [hj] at hly
      have hE : E1 = E3 := Option.some.inj hly
      have HCALL := Aside0.mk (eng_settle.calls k E1 _ T1 p1 E4 wr HE.out HLI.out (by rw [hE]; exact HS.out))
      have hd : decide ((j : Int) < (l0.length : Int)) = false := decide_eq_false (by omega)
      have P2 : (j < l0.length) = False := eq_false hlt
      clear hly hj HLY hE
      go_wp2_with fail
      refine HCALL.out.mono ?_
      rintro e' w5 ⟨rfl, T5, p5, h5, m5, f5⟩
      have H5 := Aside0.mk h5
      have HB5 := Aside0.mk (Below.trans HBw.out (m5.below _ HBw.out.size HT.out))
      have HT5 := Aside0.mk (show ∀ k, k < w.heap.size → T5 k = (0, 0) from fun k hk => ((m5.old k (Nat.lt_of_lt_of_le hk HBw.out.size)).1.trans (HT.out k hk)))
      clear h5 m5 f5 HCALL
      go_wp2
      go_ret2
      exact ⟨_, rfl, T5, p5, H5.out, HB5.out, HT5.out⟩


end Go.Proofs.Ytfcofpgehlmbbaa.P

-- Printed by wip/tools/pp.py of this claim's session (over the kit's print.py); Lean checks it.
namespace Go.Proofs.Ytfcofpgehlmbbaa.P
open Go.RowKit Go.Proofs.YtfcofpgehlmbbaaW.PrintWords Go.Proofs.YtfcofpgehlmbbaaW.PrintLast Go.Proofs.YtfcofpgehlmbbaaW.PrintMore
attribute [local go_sem] max2_int min2_int max_two min_two max_three min_three max_four min_four   -- for this text's walks alone
set_option linter.unusedVariables false
set_option linter.unusedSimpArgs false

/-! ### sequiturbase_Ints: function 29 -/
def sequiturbase_Ints.l0 : Nat → List Int → List Int → Int → Option (Bool)
  | 0, _, _, _ => none
  | k + 1, x0, x1, x5 => if x5 < (x0.length : Int) then (if 0 ≤ x5 then (if x5 < (x1.length : Int) then (if (rd x0 x5) = (rd x1 x5) then (sequiturbase_Ints.l0 k x0 x1 (wrap64 (x5 + 1))) else (some false)) else (none)) else (none)) else (some true)
def sequiturbase_Ints.f (k : Nat) (l0 : List Int) (l1 : List Int) : Option (Bool) := if (l0.length : Int) = (l1.length : Int) then (sequiturbase_Ints.l0 k l0 l1 0) else (some false)
theorem sequiturbase_Ints.mono_l : ∀ k, (∀ y0 y1 y2, LeO (sequiturbase_Ints.l0 k y0 y1 y2) (sequiturbase_Ints.l0 (k + 1) y0 y1 y2))
  | 0 => fun _ _ _ r h => by simp [sequiturbase_Ints.l0] at h
  | k + 1 => by
    have ih0 := sequiturbase_Ints.mono_l k
    · intro y0 y1 y2
      unfold sequiturbase_Ints.l0
      repeat' first
      | (with_reducible exact ih0 _ _ _)
      | (with_reducible exact LeO.refl _)
      | (with_reducible exact LeO.none _)
      | (with_reducible refine LeO.ite ?_ ?_)
      | (with_reducible refine LeO.bind ?_ (fun _ => ?_))
      | exact ih0 _ _ _
      | exact LeO.none _
      | refine LeO.ite ?_ ?_
      | refine LeO.bind ?_ (fun _ => ?_)
theorem sequiturbase_Ints.mono : ∀ a0 a1 k, LeO (sequiturbase_Ints.f k a0 a1) (sequiturbase_Ints.f (k + 1) a0 a1) := by
  intro a0 a1 k
  have ih0 := sequiturbase_Ints.mono_l k
  unfold sequiturbase_Ints.f
  repeat' first
      | (with_reducible exact ih0 _ _ _)
      | (with_reducible exact LeO.refl _)
      | (with_reducible exact LeO.none _)
      | (with_reducible refine LeO.ite ?_ ?_)
      | (with_reducible refine LeO.bind ?_ (fun _ => ?_))
      | exact ih0 _ _ _
      | exact LeO.none _
      | refine LeO.ite ?_ ?_
      | refine LeO.bind ?_ (fun _ => ?_)
set_option maxHeartbeats 8000000 in
set_option maxRecDepth 100000 in
theorem sequiturbase_Ints.calls (k : Nat) (A0 : Option Addr) (c0 : Nat) (l0 : List Int) (A1 : Option Addr) (c1 : Nat) (l1 : List Int) (r : Bool) (w : World) (hr0 : Kd.C (Kd.int .i64) w A0 l0.length l0) (hc0 : l0.length ≤ c0) (hr1 : Kd.C (Kd.int .i64) w A1 l1.length l1) (hc1 : l1.length ≤ c1) (h : sequiturbase_Ints.f k l0 l1 = some r) :
    Calls Try.prog 29 #[.slice A0 l0.length c0, .slice A1 l1.length c1] w fun e w' => e = .returned (.bool r) ∧ Drawn0 w w' := by
  have HR0 := Aside0.mk hr0
  have HC0 := Aside0.mk hc0
  clear hr0 hc0
  have HR1 := Aside0.mk hr1
  have HC1 := Aside0.mk hc1
  clear hr1 hc1
  have H : (if (l0.length : Int) = (l1.length : Int) then (sequiturbase_Ints.l0 k l0 l1 0) else (some false)) = some r := h
  clear h
  by_cases c3 : (l0.length : Int) = (l1.length : Int)
  · rw [if_pos c3] at H
    have c3b0 : ((l0.length : Int) == (l1.length : Int)) = true := beq_iff_eq.mpr c3
    have c3b1 : ((l0.length : Int) != (l1.length : Int)) = false := bne_eq_false_iff_eq.mpr c3
    have c3b2 : (l0.length == l1.length) = true := by first | simpa using c3 | (simp at c3 ⊢; omega)
    clear c3
    have H' := Aside0.mk H
    clear H
    go_enter Try.func29, Try.ntmps29
    go_wp2
    repeat (go_quiet (fail); try go_wp2)
    go_loopg [5] k (fun kq v5 w' => ∃ (x5_1 : Int), v5 = .int .i64 x5_1 ∧ Aside0 (sequiturbase_Ints.l0 kq l0 l1 x5_1 = some r) ∧ Aside0 (kq ≤ k) ∧ Drawn0 w w')
    case atStart => exact ⟨(0), (by first | rfl | (simp; done) | (simp [*]; done)), H', ⟨Nat.le_refl _⟩, by repeat (first | exact Drawn0.refl _ | apply Drawn0.step)⟩
    case round =>
      clear H'
      try clear c1
      try clear c2
      try clear p2
      try clear c3
      try clear c3b0
      try clear c3b1
      try clear c3b2
      obtain ⟨x5_1, rfl, HA, HK1, ⟨m1, rfl⟩⟩ := hrel
      cases gk with
      | zero => exact absurd HA.out (by simp [sequiturbase_Ints.l0])
      | succ k1 =>
        have H := HA.out
        clear HA
        simp only [sequiturbase_Ints.l0] at H
        by_cases c4 : x5_1 < (l0.length : Int)
        · rw [if_pos c4] at H
          have c4b0 : decide (x5_1 < (l0.length : Int)) = true := decide_eq_true c4
          clear c4
          by_cases c5 : 0 ≤ x5_1
          · rw [if_pos c5] at H
            have c5b0 : decide (0 ≤ x5_1) = true := decide_eq_true c5
            clear c5
            by_cases c6 : x5_1 < (l1.length : Int)
            · rw [if_pos c6] at H
              have c6b0 : decide (x5_1 < (l1.length : Int)) = true := decide_eq_true c6
              clear c6
              by_cases c7 : (rd l0 x5_1) = (rd l1 x5_1)
              · rw [if_pos c7] at H
                have c7b0 : ((rd l0 x5_1) == (rd l1 x5_1)) = true := beq_iff_eq.mpr c7
                have c7b1 : ((rd l0 x5_1) != (rd l1 x5_1)) = false := bne_eq_false_iff_eq.mpr c7
                clear c7
                as_aux_lemma =>
                  have H' := Aside0.mk H
                  clear H
                  have p127 : 0 ≤ (x5_1 : Int) := of_decide_eq_true (by first | (with_reducible assumption) | assumption)
                  have q127 : x5_1 < (l0.length : Int) := of_decide_eq_true (by first | (with_reducible assumption) | assumption)
                  obtain ⟨ad127, e127, hx127_0⟩ := Kd.at_int HR0.out x5_1 p127 q127
                  cases e127
                  replace p127 := eq_true p127
                  replace q127 := eq_true q127
                  have p128 : 0 ≤ (x5_1 : Int) := of_decide_eq_true (by first | (with_reducible assumption) | assumption)
                  have q128 : x5_1 < (l1.length : Int) := of_decide_eq_true (by first | (with_reducible assumption) | assumption)
                  obtain ⟨ad128, e128, hx128_0⟩ := Kd.at_int HR1.out x5_1 p128 q128
                  cases e128
                  replace p128 := eq_true p128
                  replace q128 := eq_true q128
                  go_wp2
                  repeat (go_quiet (fail); try go_wp2)
                  go_roundg k1
                  case measure => have := HK1.out; omega
                  case rel => exact ⟨(wrap64 (x5_1 + 1)), (by first | rfl | (simp; done) | (simp [*]; done)), H', ⟨by have := HK1.out; omega⟩, by repeat (first | exact Drawn0.refl _ | apply Drawn0.step)⟩
              · rw [if_neg c7] at H
                have c7b0 : ((rd l0 x5_1) == (rd l1 x5_1)) = false := beq_eq_false_iff_ne.mpr c7
                have c7b1 : ((rd l0 x5_1) != (rd l1 x5_1)) = true := bne_iff_ne.mpr c7
                as_aux_lemma =>
                  obtain rfl := Option.some.inj H
                  have p127 : 0 ≤ (x5_1 : Int) := of_decide_eq_true (by first | (with_reducible assumption) | assumption)
                  have q127 : x5_1 < (l0.length : Int) := of_decide_eq_true (by first | (with_reducible assumption) | assumption)
                  obtain ⟨ad127, e127, hx127_0⟩ := Kd.at_int HR0.out x5_1 p127 q127
                  cases e127
                  replace p127 := eq_true p127
                  replace q127 := eq_true q127
                  have p128 : 0 ≤ (x5_1 : Int) := of_decide_eq_true (by first | (with_reducible assumption) | assumption)
                  have q128 : x5_1 < (l1.length : Int) := of_decide_eq_true (by first | (with_reducible assumption) | assumption)
                  obtain ⟨ad128, e128, hx128_0⟩ := Kd.at_int HR1.out x5_1 p128 q128
                  cases e128
                  replace p128 := eq_true p128
                  replace q128 := eq_true q128
                  go_wp2
                  repeat (go_quiet (fail); try go_wp2)
                  go_ret
                  exact ⟨by first | rfl | (simp; done) | (simp [*]; done), by repeat (first | exact Drawn0.refl _ | apply Drawn0.step)⟩
            · rw [if_neg c6] at H
              exact absurd H (by simp)
          · rw [if_neg c5] at H
            exact absurd H (by simp)
        · rw [if_neg c4] at H
          have c4b0 : decide (x5_1 < (l0.length : Int)) = false := decide_eq_false c4
          clear c4
          as_aux_lemma =>
            obtain rfl := Option.some.inj H
            go_wp2
            repeat (go_quiet (fail); try go_wp2)
            go_ret
            exact ⟨by first | rfl | (simp; done) | (simp [*]; done), by repeat (first | exact Drawn0.refl _ | apply Drawn0.step)⟩
  · rw [if_neg c3] at H
    have c3b0 : ((l0.length : Int) == (l1.length : Int)) = false := beq_eq_false_iff_ne.mpr c3
    have c3b1 : ((l0.length : Int) != (l1.length : Int)) = true := bne_iff_ne.mpr c3
    have c3b2 : (l0.length == l1.length) = false := by first | simpa using c3 | (simp at c3 ⊢; omega)
    as_aux_lemma =>
      obtain rfl := Option.some.inj H
      go_enter Try.func29, Try.ntmps29
      go_wp2
      repeat (go_quiet (fail); try go_wp2)
      go_ret
      exact ⟨by first | rfl | (simp; done) | (simp [*]; done), by repeat (first | exact Drawn0.refl _ | apply Drawn0.step)⟩

end Go.Proofs.Ytfcofpgehlmbbaa.P

-- Printed by wip/tools/pp.py of this claim's session (over the kit's print.py); Lean checks it.
namespace Go.Proofs.Ytfcofpgehlmbbaa.P
open Go.RowKit Go.Proofs.YtfcofpgehlmbbaaW.PrintWords Go.Proofs.YtfcofpgehlmbbaaW.PrintLast Go.Proofs.YtfcofpgehlmbbaaW.PrintMore
attribute [local go_sem] max2_int min2_int max_two min_two max_three min_three max_four min_four   -- for this text's walks alone
set_option linter.unusedVariables false
set_option linter.unusedSimpArgs false

-- SOLO
-- IMPORTS Derived.Test.YtfcofpgehlmbbaaPxAunitEng
/-! ### sequiturlaw20_alive: function 15 -/
/-- The chapter's example goes as told. -/
def sequiturlaw20_alive.P (k : Nat) : Prop := ∃ E2 E3, Eng.new k 3 [[1, 2], [-1, 3]] = some (E2, 0) ∧ Eng.push k E2 (-2) = some (E3, true) ∧ E3.tr = [-2, 1, 3] ∧ E3.br < 0 ∧ sequiturbase_Ints.f k [-2, 1, 3] [-2, 1, 3] = some true ∧ E2.Lits ∧ ∀ c ∈ [[1, 2], [(-1 : Int), 3]], ∀ r, lit_Clean.f c = some r → ∀ x ∈ r.1, (Lit.int .i64 x).wf = true
set_option maxRecDepth 100000 in
set_option maxHeartbeats 4000000 in
theorem sequiturlaw20_alive.calls (k : Nat) (w : World) (h : sequiturlaw20_alive.P k) :
    Calls Try.prog 15 #[] w fun e w' => e = .returned (.bool true) ∧ Below w.heap.size w w' := by
  obtain ⟨E2, E3, h1, h2, h3, h4, h5, h6, h7⟩ := h
  have hu24 := Try.underlying24
  have HB := Aside0.mk (Below.refl w.heap.size w)
  obtain ⟨y129, hy129⟩ : ∃ y_ : List Int, y_ = (([1, 2] : List Int)) := ⟨_, rfl⟩
  have Ny129 := Aside0.mk hy129
  obtain ⟨y132, hy132⟩ : ∃ y_ : List Int, y_ = (([(-1), 3] : List Int)) := ⟨_, rfl⟩
  have Ny132 := Aside0.mk hy132
  obtain ⟨y135, hy135⟩ : ∃ y_ : List (List Int), y_ = (([y129, y132] : List (List Int))) := ⟨_, rfl⟩
  have Ny135 := Aside0.mk hy135
  have e135 : ([[1, 2], [-1, 3]] : List (List Int)) = y135 := by rw [hy135, hy129, hy132]
  rw [e135] at h1 h7
  obtain ⟨y144, hy144⟩ : ∃ y_ : List Int, y_ = (([(-2), 1, 3] : List Int)) := ⟨_, rfl⟩
  have Ny144 := Aside0.mk hy144
  rw [← hy144] at h3 h5
  have H1 := Aside0.mk h1
  have H2 := Aside0.mk h2
  have H3 := Aside0.mk h3
  have H4 := Aside0.mk h4
  have H5 := Aside0.mk h5
  have H6 := Aside0.mk h6
  have H7 := Aside0.mk h7
  clear h1 h2 h3 h4 h5 h6 h7 hy129 hy132 hy135 hy144 e135
  go_enter Try.func15, Try.ntmps15
  go_wp2_with (first | ((with_reducible refine gate_dst (N := 4) rfl ?_); (try (refine gate_guard (by rfl) ?_; dsimp only)); refine Kd.R_lit (Kd.int .i64) _ 3 ?hg (N := 4) ?hd (xs := ([1, 2] : List Int)) (inner := [.int .i64 1, .int .i64 2]) (ok := fun _ => True) (okp := fun _ => True) ?hr ?hp (fun _ hk => hk) trivial (Below.refl _ _) (Nat.le_refl _) (by simp) ?_; (case hd => rfl); (case hg => rfl); (case hr => first | (go_simp; done) | (go_simp; rfl)); (case hp => exact (Reps.one (show Kd.M (Kd.int .i64) _ _ _ 1 [.int .i64 1] from rfl) (Reps.one (show Kd.M (Kd.int .i64) _ _ _ 2 [.int .i64 2] from rfl) (Reps.none _ _)))); intro v130 w9 ho10 hb hg_ hnew_; clear hg_ hnew_; (first | rw [← Ny129.out] at ho10 | (simp only [Int.reduceToNat] at ho10; rw [← Ny129.out] at ho10)); have n0_ := Aside0.mk (Kd.R_lower ho10 (below_size (by repeat (first | (with_reducible first | exact HB.out | apply below_alloc | apply pw_below_drewN | apply below_drew1) | exact HB.out)))); have n1_ := Aside0.mk (below_step (by repeat (first | (with_reducible first | exact HB.out | apply below_alloc | apply pw_below_drewN | apply below_drew1) | exact HB.out)) hb); clear HB; have HO131 := n0_; have HB := n1_; clear n0_ n1_; clear hb ho10) | ((with_reducible refine gate_dst (N := 5) rfl ?_); (try (refine gate_guard (by rfl) ?_; dsimp only)); refine Kd.R_lit (Kd.int .i64) _ 3 ?hg (N := 5) ?hd (xs := ([(-1), 3] : List Int)) (inner := [.int .i64 (-1), .int .i64 3]) (ok := fun _ => True) (okp := fun _ => True) ?hr ?hp (fun _ hk => hk) trivial (Below.refl _ _) (Nat.le_refl _) (by simp) ?_; (case hd => rfl); (case hg => rfl); (case hr => first | (go_simp; done) | (go_simp; rfl)); (case hp => exact (Reps.one (show Kd.M (Kd.int .i64) _ _ _ (-1) [.int .i64 (-1)] from rfl) (Reps.one (show Kd.M (Kd.int .i64) _ _ _ 3 [.int .i64 3] from rfl) (Reps.none _ _)))); intro v133 w11 ho12 hb hg_ hnew_; clear hg_ hnew_; (first | rw [← Ny132.out] at ho12 | (simp only [Int.reduceToNat] at ho12; rw [← Ny132.out] at ho12)); have n0_ := Aside0.mk (Kd.R_elder' (by (with_reducible repeat (first | apply Kd.R_alloc | apply Kd.R_drewN | apply Kd.R_drew)); exact HO131.out) (Kd.R_base ho12) hb); have n1_ := Aside0.mk (Kd.R_lower (Kd.R_new' ho12 (Kd.R_lt (by (with_reducible repeat (first | apply Kd.R_alloc | apply Kd.R_drewN | apply Kd.R_drew)); exact HO131.out))) (below_size (by repeat (first | (with_reducible first | exact HB.out | apply below_alloc | apply pw_below_drewN | apply below_drew1) | exact HB.out)))); have n2_ := Aside0.mk (below_step (by repeat (first | (with_reducible first | exact HB.out | apply below_alloc | apply pw_below_drewN | apply below_drew1) | exact HB.out)) hb); clear HO131; clear HB; have HO131 := n0_; have HO134 := n1_; have HB := n2_; clear n0_ n1_ n2_; clear hb ho12; obtain ⟨Ao13, co13, eo13⟩ := Kd.R_slice HO131.out; subst eo13; obtain ⟨Ao14, co14, eo14⟩ := Kd.R_slice HO134.out; subst eo14) | ((with_reducible refine gate_dst (N := 6) rfl ?_); (try (refine gate_guard (by rfl) ?_; dsimp only)); refine Kd.N_lit (Kd.slice 3 (Kd.int .i64)) _ 33 ?hg (N' := 6) ?hd (xs := ([y129, y132] : List (List Int))) (inner := [.slice Ao13 y129.length co13, .slice Ao14 y132.length co14]) (ok := (fun _ => True)) (okp := (fun _ => True)) ?hr ?hp (fun _ hk => hk) ((show ∀ k_, w11.heap.size ≤ k_ → (fun _ => True) k_ from fun k_ hk => trivial) _ (Nat.le_refl _)) (Below.refl _ _) (Nat.le_refl _) (by simp) ?_; (case hd => rfl); (case hg => rfl); (case hr => first | (go_simp; done) | (go_simp; rfl)); (case hp => exact (Reps.one (show Kd.FK (Kd.slice 3 (Kd.int .i64)) _ _ y129 [.slice Ao13 y129.length co13] from (Kd.FK_slice_mk (Kd.R_reads' (Kd.R_mono (ok' := (fun _ => True)) (HO131.out) (fun k_ hk => trivial))).2.1 (Kd.R_F (Kd.R_mono (ok' := (fun _ => True)) (HO131.out) (fun k_ hk => trivial))))) (Reps.one (show Kd.FK (Kd.slice 3 (Kd.int .i64)) _ _ y132 [.slice Ao14 y132.length co14] from (Kd.FK_slice_mk (Kd.R_reads' (Kd.R_mono (ok' := (fun _ => True)) (HO134.out) (fun k_ hk => trivial))).2.1 (Kd.R_F (Kd.R_mono (ok' := (fun _ => True)) (HO134.out) (fun k_ hk => trivial))))) (Reps.none _ _)))); intro v136 w15 ho16 hb hg_ hnew_; clear hg_ hnew_; (first | rw [← Ny135.out] at ho16 | (simp only [Int.reduceToNat] at ho16; rw [← Ny135.out] at ho16)); have n0_ := Aside0.mk (Kd.N_lower ho16 (below_size (by repeat (first | (with_reducible first | exact HB.out | apply below_alloc | apply pw_below_drewN | apply below_drew1) | exact HB.out)))); have n1_ := Aside0.mk (below_step (by repeat (first | (with_reducible first | exact HB.out | apply below_alloc | apply pw_below_drewN | apply below_drew1) | exact HB.out)) hb); clear HB; clear HO131; clear HO134; have HO137 := n0_; have HB := n1_; clear n0_ n1_; clear hb ho16; obtain ⟨Ao17, co17, eo17⟩ := Kd.N_slice HO137.out; subst eo17))
  refine (eng_New.calls k 3 _ _ y135 E2 _ (Kd.N_reads' HO137.out).2.2 (Kd.N_reads' HO137.out).2.1 H7.out H1.out).mono ?_
  rintro e' w2 ⟨B, rfl, T, p, h, hb, hT⟩
  have HE := Aside0.mk h
  have HT := Aside0.mk (show ∀ k, k < w.heap.size → T k = (0, 0) from fun k hk => hT k (Nat.lt_of_lt_of_le hk (below_size (by repeat (first | (with_reducible first | exact HB.out | apply below_alloc | apply pw_below_drewN | apply below_drew1) | exact HB.out)))))
  have n_ := Aside0.mk (below_step (by repeat (first | (with_reducible first | exact HB.out | apply below_alloc | apply pw_below_drewN | apply below_drew1) | exact HB.out)) hb)
  clear HB HO137 h hb hT
  have HB := n_
  clear n_
  have hd1 : ((-2 : Int) == 0) = false := by decide
  go_wp2_with fail
  refine (eng_Push.calls k E2 B T p (-2) E3 true _ HE.out (by decide) H6.out H2.out).mono ?_
  rintro e' w3 ⟨rfl, T3, p3, h3, m3, f3⟩
  have n_ := Aside0.mk (Below.trans HB.out (m3.below _ HB.out.size HT.out))
  clear HB HE
  have HB := n_
  have HE := Aside0.mk h3
  clear n_ h3 m3 f3
  go_wp2_with fail
  refine (eng_Trail.calls E3 B T3 p3 _ HE.out (by rw [H3.out, Ny144.out]; decide)).mono ?_
  rintro e' w4 ⟨v142, rfl, ho0, hb⟩
  have HO143 := Aside0.mk (Kd.R_lower ho0 (below_size (by repeat (first | (with_reducible first | exact HB.out | apply below_alloc | apply pw_below_drewN | apply below_drew1) | exact HB.out))))
  have n0_ := Aside0.mk (HE.out.below hb)
  have n1_ := Aside0.mk (below_step (by repeat (first | (with_reducible first | exact HB.out | apply below_alloc | apply pw_below_drewN | apply below_drew1) | exact HB.out)) hb)
  clear HB HE ho0 hb
  have HE := n0_
  have HB := n1_
  clear n0_ n1_
  rw [H3.out] at HO143
  go_wp2_with (first | ((with_reducible refine gate_dst (N := 20) rfl ?_); (try (refine gate_guard (by rfl) ?_; dsimp only)); refine Kd.R_lit (Kd.int .i64) _ 3 ?hg (N := 20) ?hd (xs := ([(-2), 1, 3] : List Int)) (inner := [.int .i64 (-2), .int .i64 1, .int .i64 3]) (ok := fun _ => True) (okp := fun _ => True) ?hr ?hp (fun _ hk => hk) trivial (Below.refl _ _) (Nat.le_refl _) (by simp) ?_; (case hd => rfl); (case hg => rfl); (case hr => first | (go_simp; done) | (go_simp; rfl)); (case hp => exact (Reps.one (show Kd.M (Kd.int .i64) _ _ _ (-2) [.int .i64 (-2)] from rfl) (Reps.one (show Kd.M (Kd.int .i64) _ _ _ 1 [.int .i64 1] from rfl) (Reps.one (show Kd.M (Kd.int .i64) _ _ _ 3 [.int .i64 3] from rfl) (Reps.none _ _))))); intro v145 w21 ho22 hb hg_ hnew_; clear hg_ hnew_; (first | rw [← Ny144.out] at ho22 | (simp only [Int.reduceToNat] at ho22; rw [← Ny144.out] at ho22)); have n0_ := Aside0.mk (HE.out.below hb); have n1_ := Aside0.mk (Kd.R_elder' (by (with_reducible repeat (first | apply Kd.R_alloc | apply Kd.R_drewN | apply Kd.R_drew)); exact HO143.out) (Kd.R_base ho22) hb); have n2_ := Aside0.mk (Kd.R_lower (Kd.R_new' ho22 (Kd.R_lt (by (with_reducible repeat (first | apply Kd.R_alloc | apply Kd.R_drewN | apply Kd.R_drew)); exact HO143.out))) (below_size (by repeat (first | (with_reducible first | exact HB.out | apply below_alloc | apply pw_below_drewN | apply below_drew1) | exact HB.out)))); have n3_ := Aside0.mk (below_step (by repeat (first | (with_reducible first | exact HB.out | apply below_alloc | apply pw_below_drewN | apply below_drew1) | exact HB.out)) hb); clear HE; clear HO143; clear HB; have HE := n0_; have HO143 := n1_; have HO146 := n2_; have HB := n3_; clear n0_ n1_ n2_ n3_; clear hb ho22; obtain ⟨Ao23, co23, eo23⟩ := Kd.R_slice HO143.out; subst eo23; obtain ⟨Ao24, co24, eo24⟩ := Kd.R_slice HO146.out; subst eo24))
  refine (sequiturbase_Ints.calls k _ _ y144 _ _ y144 true _ (Kd.R_reads' HO143.out).2.2 (Kd.R_reads' HO143.out).2.1 (Kd.R_reads' HO146.out).2.2 (Kd.R_reads' HO146.out).2.1 H5.out).mono ?_
  rintro e' w5 ⟨rfl, ⟨nd, rfl⟩⟩
  have n0_ := Aside0.mk (HE.out.below (pw_below_drewN (Below.refl _ _) nd))
  have n1_ := Aside0.mk (pw_below_drewN HB.out nd)
  clear HB HE HO143 HO146
  have HE := n0_
  have HB := n1_
  clear n0_ n1_
  go_wp2_with fail
  refine (eng_Broken.calls E3 B T3 p3 _ HE.out).mono ?_
  rintro e' w6 ⟨rfl, rfl⟩
  have hd2 : decide (E3.br < 0) = true := decide_eq_true H4.out
  go_wp2
  go_ret
  exact ⟨by simp [H4.out], HB.out⟩


end Go.Proofs.Ytfcofpgehlmbbaa.P

-- Printed by wip/tools/pp.py of this claim's session (over the kit's print.py); Lean checks it.
namespace Go.Proofs.Ytfcofpgehlmbbaa.P
open Go.RowKit Go.Proofs.YtfcofpgehlmbbaaW.PrintWords Go.Proofs.YtfcofpgehlmbbaaW.PrintLast Go.Proofs.YtfcofpgehlmbbaaW.PrintMore
attribute [local go_sem] max2_int min2_int max_two min_two max_three min_three max_four min_four   -- for this text's walks alone
set_option linter.unusedVariables false
set_option linter.unusedSimpArgs false

-- SOLO
-- IMPORTS Derived.Test.YtfcofpgehlmbbaaPxAunitEng
/-! ### unit_Engine_Pop: function 33 -/
set_option maxRecDepth 100000 in
theorem eng_Pop.nobody (w : World) : Calls Try.prog 33 #[.pointer none] w fun e w' => e = .returned (.bool false) ∧ w' = w := by
  go_enter Try.func33, Try.ntmps33
  go_wp2
  go_ret
  exact ⟨rfl, rfl⟩


end Go.Proofs.Ytfcofpgehlmbbaa.P

-- Printed by wip/tools/pp.py of this claim's session (over the kit's print.py); Lean checks it.
namespace Go.Proofs.Ytfcofpgehlmbbaa.P
open Go.RowKit Go.Proofs.YtfcofpgehlmbbaaW.PrintWords Go.Proofs.YtfcofpgehlmbbaaW.PrintLast Go.Proofs.YtfcofpgehlmbbaaW.PrintMore
attribute [local go_sem] max2_int min2_int max_two min_two max_three min_three max_four min_four   -- for this text's walks alone
set_option linter.unusedVariables false
set_option linter.unusedSimpArgs false

-- SOLO
-- IMPORTS Derived.Test.YtfcofpgehlmbbaaPxAunitEng
/-! ### unit_Engine_Add: function 35 -/
/-- A clause more, and it goes on. -/
def Eng.add (k : Nat) (E : Eng) (c : List Int) : Option (Eng × Int) :=
  (lit_Right.f k c E.n).bind fun e => if e ≠ 0 then some (E, e) else if E.cls.length ≥ 4096 then some (E, 2) else (lit_Clean.f c).bind fun r =>
    if E.ws + r.1.length < 4398046511104 ∧ E.tr.length < 4398046511104 then (if E.br < 0 then (Eng.follow k ((E.laid r.1).look E.cls.length) E.tr.length).bind fun E' => some (E', 0) else some (E.laid r.1, 0)) else none
set_option maxRecDepth 100000 in
set_option maxHeartbeats 4000000 in
theorem eng_Add.calls (k : Nat) (E : Eng) (B : Nat) (T : Tag) (p : EngP) (A0 : Option Addr) (c0 : Nat) (l0 : List Int) (E2 : Eng) (r : Int) (w : World) (h : EngIn w B T E p) (hr0 : Kd.C (Kd.int .i64) w A0 l0.length l0) (hc0 : l0.length ≤ c0) (hlit : E.Lits) (hwf : ∀ r, lit_Clean.f l0 = some r → ∀ x ∈ r.1, (Lit.int .i64 x).wf = true) (hf : Eng.add k E l0 = some (E2, r)) :
    Calls Try.prog 35 #[.pointer (some ⟨B, 0, none⟩), .slice A0 l0.length c0] w fun e w' => e = .returned (.int .i64 r) ∧ ∃ T' p', EngIn w' B T' E2 p' ∧ Moved T T' w w' := by
  unfold Eng.add at hf
  obtain ⟨e, he, hf⟩ := Option.bind_eq_some_iff.mp hf
  have c0' := h.cells.1
  have HE := Aside0.mk h
  have HR := Aside0.mk (lit_Right.calls k A0 c0 l0 E.n e w hr0 hc0 he)
  clear he
  by_cases h0 : e = 0
  · subst h0
    rw [if_neg (by decide)] at hf
    obtain ⟨A1, k1, e1⟩ := Kd.R_slice h.cls
    obtain ⟨N, hN⟩ : ∃ N, E.cls.length = N := ⟨_, rfl⟩
    have hcc : ∀ {W : World}, Below w.heap.size w W → W.cell? ⟨B, 1, none⟩ = some (.slice A1 N k1) := fun hb => by
      rw [(h.below hb).cells.2.1, e1, h.len, hN]
    have HCC := Aside0.mk @hcc
    rw [hN] at hf
    by_cases h4 : N ≥ 4096
    · rw [if_pos h4] at hf
      simp only [Option.some.injEq, Prod.mk.injEq] at hf
      obtain ⟨h1, h2⟩ := hf
      subst h2
      have H2 := Aside0.mk h1
      have d1 : decide ((4096 : Int) ≤ (N : Int)) = true := decide_eq_true (by omega)
      have d2 : (4096 ≤ N) = True := eq_true h4
      clear h1 h hlit hwf hr0 hN hcc e1
      go_enter Try.func35, Try.ntmps35
      go_wp2_with fail
      refine HR.out.mono ?_
      rintro e' w1 ⟨rfl, ⟨⟨n1, rfl⟩⟩⟩
      have hb1 := pw_below_drewN (Below.refl w.heap.size w) n1
      have c1 := HCC.out hb1
      have HB1 := Aside0.mk hb1
      clear hb1
      go_wp2
      go_ret
      rw [← H2.out]
      exact ⟨rfl, T, p, HE.out.below HB1.out, Moved.of_below HB1.out⟩
    · rw [if_neg h4] at hf
      obtain ⟨⟨r1, r2⟩, hcl, hf⟩ := Option.bind_eq_some_iff.mp hf
      dsimp only at hf
      by_cases hbd : E.ws + r1.length < 4398046511104 ∧ E.tr.length < 4398046511104
      · rw [if_pos hbd] at hf
        have d1 : decide ((4096 : Int) ≤ (N : Int)) = false := decide_eq_false (by omega)
        have d2 : (4096 ≤ N) = False := eq_false h4
        have hw1 := hwf _ hcl
        have HCALL := Aside0.mk (fun W (hW : Below w.heap.size w W) => eng_lay.calls E B T p A0 c0 l0 r1 r2 W (h.below hW) (Kd.C_below hr0 hW) hc0 hcl hw1 hbd.1 (by rw [hN]; omega))
        obtain ⟨s1, s2, s3, s4, s5, s6, s7⟩ := E.laid_same r1
        have HS1 := Aside0.mk s1
        have HS2 := Aside0.mk s2
        have HS3 := Aside0.mk (show (E.laid r1).cls.length = N + 1 by rw [s3, List.length_append, hN]; rfl)
        have HLL := Aside0.mk (Eng.laid_lits hlit hw1)
        have HBD := Aside0.mk hbd
        have HF := Aside0.mk hf
        have hNb : N < 4096 := by omega
        clear h hlit hwf hr0 hN hcc e1 hcl hw1 s1 s2 s3 s4 s5 s6 s7 hbd hf h4
        go_enter Try.func35, Try.ntmps35
        go_wp2_with fail
        refine HR.out.mono ?_
        rintro e' w1 ⟨rfl, ⟨⟨n1, rfl⟩⟩⟩
        have hb1 := pw_below_drewN (Below.refl w.heap.size w) n1
        have c1 := HCC.out hb1
        have HB1 := Aside0.mk hb1
        clear hb1
        go_wp2_with fail
        refine (HCALL.out _ HB1.out).mono ?_
        rintro e' w2 ⟨rfl, T2, p2, h2, m2⟩
        have c6 := h2.cells.2.2.2.2.2.2.1
        rw [HS1.out] at c6
        have HM2 := Aside0.mk ((Moved.of_below HB1.out).trans m2)
        by_cases hbr : E.br < 0
        · have hf := HF.out
          rw [if_pos hbr] at hf
          obtain ⟨E5, hf5, hr⟩ := Option.bind_eq_some_iff.mp hf
          simp only [Option.some.injEq, Prod.mk.injEq] at hr
          obtain ⟨h1, h3⟩ := hr
          subst h3
          have H2 := Aside0.mk h1
          have d3 : decide (E.br < 0) = true := decide_eq_true hbr
          have c3 := h2.cells.2.2.2.1
          obtain ⟨A3, k3, e3⟩ := Kd.R_slice h2.tr
          obtain ⟨n3, hn3⟩ : ∃ n3, E.tr.length = n3 := ⟨_, rfl⟩
          rw [e3, HS2.out, hn3] at c3
          have c1' := h2.cells.2.1
          obtain ⟨A1', k1', e1'⟩ := Kd.R_slice h2.cls
          rw [e1', h2.len, HS3.out] at c1'
          have HLK := Aside0.mk (eng_look.calls (E.laid r1) B T2 p2 N w2 h2 (by rw [HS3.out]; omega) (HLL.out _ (List.getElem_mem _)) (by rw [HS2.out]; exact HBD.out.2))
          have HF5 := Aside0.mk hf5
          have HN3 := Aside0.mk hn3
          clear hf hf5 h1 hbr e3 hn3 e1' h2 m2 HCALL
          go_wp2_with fail
          refine HLK.out.mono ?_
          rintro e' w4 ⟨rfl, T4, p4, h4, m4, f4⟩
          have HM4 := Aside0.mk (HM2.out.trans m4)
          obtain ⟨l1, l2, _⟩ := (E.laid r1).look_cls N
          have HFO := Aside0.mk (eng_follow.calls k _ B T4 p4 n3 E5 w4 h4 (by unfold Eng.Lits; rw [l1]; exact HLL.out) (by rw [← HN3.out]; exact HF5.out))
          clear h4 m4 f4 l1 l2 HLK
          go_wp2_with fail
          refine HFO.out.mono ?_
          rintro e' w5 ⟨rfl, T5, p5, h5, m5, f5⟩
          have H5 := Aside0.mk h5
          have M5 := Aside0.mk (HM4.out.trans m5)
          clear h5 m5 f5 HFO
          go_wp2
          go_ret
          rw [← H2.out]
          exact ⟨rfl, T5, p5, H5.out, M5.out⟩
        · have hf := HF.out
          rw [if_neg hbr] at hf
          simp only [Option.some.injEq, Prod.mk.injEq] at hf
          obtain ⟨h1, h3⟩ := hf
          subst h3
          have H2 := Aside0.mk h1
          have d3 : decide (E.br < 0) = false := decide_eq_false hbr
          have H3 := Aside0.mk h2
          clear h1 hbr h2 m2 HCALL
          go_wp2
          go_ret
          rw [← H2.out]
          exact ⟨rfl, T2, p2, H3.out, HM2.out⟩
      · rw [if_neg hbd] at hf; cases hf
  · rw [if_pos h0] at hf
    simp only [Option.some.injEq, Prod.mk.injEq] at hf
    obtain ⟨h1, h2⟩ := hf
    subst h2
    have H2 := Aside0.mk h1
    have q1 : (e != 0) = true := by simpa using h0
    have q2 : (e == 0) = false := by simpa using h0
    clear h1 h hlit hwf hr0 h0
    go_enter Try.func35, Try.ntmps35
    go_wp2_with fail
    refine HR.out.mono ?_
    rintro e' w1 ⟨rfl, ⟨⟨n1, rfl⟩⟩⟩
    have HB1 := Aside0.mk (pw_below_drewN (Below.refl w.heap.size w) n1)
    go_wp2
    go_ret
    rw [← H2.out]
    exact ⟨rfl, T, p, HE.out.below HB1.out, Moved.of_below HB1.out⟩
set_option maxRecDepth 100000 in
theorem eng_Add.nobody (A0 : Option Addr) (n0 c0 : Nat) (w : World) : Calls Try.prog 35 #[.pointer none, .slice A0 n0 c0] w fun e w' => e = .returned (.int .i64 1) ∧ w' = w := by
  go_enter Try.func35, Try.ntmps35
  go_wp2
  go_ret
  exact ⟨rfl, rfl⟩


end Go.Proofs.Ytfcofpgehlmbbaa.P

-- Printed by wip/tools/pp.py of this claim's session (over the kit's print.py); Lean checks it.
namespace Go.Proofs.Ytfcofpgehlmbbaa.P
open Go.RowKit Go.Proofs.YtfcofpgehlmbbaaW.PrintWords Go.Proofs.YtfcofpgehlmbbaaW.PrintLast Go.Proofs.YtfcofpgehlmbbaaW.PrintMore
attribute [local go_sem] max2_int min2_int max_two min_two max_three min_three max_four min_four   -- for this text's walks alone
set_option linter.unusedVariables false
set_option linter.unusedSimpArgs false

-- SOLO
-- IMPORTS Derived.Test.YtfcofpgehlmbbaaPxAunitEng
/-! ### unit_Engine_Levels: function 18 -/
set_option maxRecDepth 100000 in
theorem eng_Levels.calls (E : Eng) (B : Nat) (T : Tag) (p : EngP) (w : World) (h : EngIn w B T E p) :
    Calls Try.prog 18 #[.pointer (some ⟨B, 0, none⟩)] w fun e w' => e = .returned (.int .i64 (E.st.length : Int)) ∧ w' = w := by
  have c5 := h.cells.2.2.2.2.2.1
  obtain ⟨A5, n5, e5⟩ := Kd.R_slice h.st
  rw [e5] at c5
  clear h e5
  go_enter Try.func18, Try.ntmps18
  go_wp2
  go_ret
  exact ⟨rfl, rfl⟩
set_option maxRecDepth 100000 in
theorem eng_Levels.nobody (w : World) : Calls Try.prog 18 #[.pointer none] w fun e w' => e = .returned (.int .i64 0) ∧ w' = w := by
  go_enter Try.func18, Try.ntmps18
  go_wp2
  go_ret
  exact ⟨rfl, rfl⟩


end Go.Proofs.Ytfcofpgehlmbbaa.P

-- Printed by wip/tools/pp.py of this claim's session (over the kit's print.py); Lean checks it.
namespace Go.Proofs.Ytfcofpgehlmbbaa.P
open Go.RowKit Go.Proofs.YtfcofpgehlmbbaaW.PrintWords Go.Proofs.YtfcofpgehlmbbaaW.PrintLast Go.Proofs.YtfcofpgehlmbbaaW.PrintMore
attribute [local go_sem] max2_int min2_int max_two min_two max_three min_three max_four min_four   -- for this text's walks alone
set_option linter.unusedVariables false
set_option linter.unusedSimpArgs false

-- SOLO
-- IMPORTS Derived.Test.YtfcofpgehlmbbaaPxAunitEng
/-! ### unit_Engine_mark: function 78 -/
set_option maxRecDepth 100000 in
theorem eng_mark.nobody (v : Int) (w : World) : Calls Try.prog 78 #[.pointer none, .int .i64 v] w fun e w' => e = .returned (.tuple #[.agg #[.int .i64 0, .int .i64 0], .bool false]) ∧ Below w.heap.size w w' := by
  have hu := Try.underlying111
  go_enter Try.func78, Try.ntmps78
  go_wp2
  try simp only [Exit.inBlock, Exit.then]
  refine bodyPost_ret (v := .tuple #[.agg #[.int .i64 0, .int .i64 0], .bool false]) (by simp [results, Try.results78, go_sem]) rfl ⟨rfl, ?_⟩
  exact below_alloc (Below.refl _ _) _


end Go.Proofs.Ytfcofpgehlmbbaa.P

-- Printed by wip/tools/pp.py of this claim's session (over the kit's print.py); Lean checks it.
namespace Go.Proofs.Ytfcofpgehlmbbaa.P
open Go.RowKit Go.Proofs.YtfcofpgehlmbbaaW.PrintWords Go.Proofs.YtfcofpgehlmbbaaW.PrintLast Go.Proofs.YtfcofpgehlmbbaaW.PrintMore
attribute [local go_sem] max2_int min2_int max_two min_two max_three min_three max_four min_four   -- for this text's walks alone
set_option linter.unusedVariables false
set_option linter.unusedSimpArgs false

-- SOLO
-- IMPORTS Derived.Test.YtfcofpgehlmbbaaPxAunitEng
/-! ### unit_Engine_Why: function 30 -/
set_option maxRecDepth 100000 in
theorem eng_Why.nobody (v : Int) (w : World) : Calls Try.prog 30 #[.pointer none, .int .i64 v] w fun e w' => e = .returned (.int .i64 (-1)) ∧ Below w.heap.size w w' := by
  have HM := Aside0.mk (eng_mark.nobody v w)
  have hu := Try.underlying111
  go_enter Try.func30, Try.ntmps30
  go_wp2_with fail
  refine HM.out.mono ?_
  rintro e' w1 ⟨rfl, hb⟩
  have HB := Aside0.mk hb
  clear hb
  go_wp2
  go_ret
  exact ⟨rfl, by repeat (first | exact HB.out | apply below_alloc | apply pw_below_drewN | apply below_drew1)⟩


end Go.Proofs.Ytfcofpgehlmbbaa.P

-- Printed by wip/tools/pp.py of this claim's session (over the kit's print.py); Lean checks it.
namespace Go.Proofs.Ytfcofpgehlmbbaa.P
open Go.RowKit Go.Proofs.YtfcofpgehlmbbaaW.PrintWords Go.Proofs.YtfcofpgehlmbbaaW.PrintLast Go.Proofs.YtfcofpgehlmbbaaW.PrintMore
attribute [local go_sem] max2_int min2_int max_two min_two max_three min_three max_four min_four   -- for this text's walks alone
set_option linter.unusedVariables false
set_option linter.unusedSimpArgs false

-- SOLO
-- IMPORTS Derived.Test.YtfcofpgehlmbbaaPxAunitEng
/-! ### unit_Engine_Level: function 32 -/
set_option maxRecDepth 100000 in
theorem eng_Level.nobody (v : Int) (w : World) : Calls Try.prog 32 #[.pointer none, .int .i64 v] w fun e w' => e = .returned (.int .i64 (-1)) ∧ Below w.heap.size w w' := by
  have HM := Aside0.mk (eng_mark.nobody v w)
  have hu := Try.underlying111
  go_enter Try.func32, Try.ntmps32
  go_wp2_with fail
  refine HM.out.mono ?_
  rintro e' w1 ⟨rfl, hb⟩
  have HB := Aside0.mk hb
  clear hb
  go_wp2
  go_ret
  exact ⟨rfl, by repeat (first | exact HB.out | apply below_alloc | apply pw_below_drewN | apply below_drew1)⟩


end Go.Proofs.Ytfcofpgehlmbbaa.P

-- Printed by wip/tools/pp.py of this claim's session (over the kit's print.py); Lean checks it.
namespace Go.Proofs.Ytfcofpgehlmbbaa.P
open Go.RowKit Go.Proofs.YtfcofpgehlmbbaaW.PrintWords Go.Proofs.YtfcofpgehlmbbaaW.PrintLast Go.Proofs.YtfcofpgehlmbbaaW.PrintMore
attribute [local go_sem] max2_int min2_int max_two min_two max_three min_three max_four min_four   -- for this text's walks alone
set_option linter.unusedVariables false
set_option linter.unusedSimpArgs false

-- SOLO
-- IMPORTS Derived.Test.YtfcofpgehlmbbaaPxAunitEng
/-! ### sequiturlaw20_UnitNobody: function 6 -/
/-- What the law's calls tell. -/
def sequiturlaw20_UnitNobody.Fact (k : Nat) (_x : Int) (_l : List Int) : Prop := sequiturlaw20_alive.P k
set_option maxRecDepth 100000 in
set_option maxHeartbeats 4000000 in
theorem sequiturlaw20_UnitNobody.calls (k : Nat) (a0 : Int) (A1 : Option Addr) (c1 : Nat) (l1 : List Int) (w : World) (hr1 : Kd.C (Kd.int .i64) w A1 l1.length l1) (hc1 : l1.length ≤ c1) (h : sequiturlaw20_UnitNobody.Fact k a0 l1) :
    Calls Try.prog 6 #[.int .i64 a0, .slice A1 l1.length c1] w fun e w' => e = .returned (.bool true) ∧ Below w.heap.size w w' := by
  have HP := Aside0.mk (show sequiturlaw20_alive.P k from h)
  have HB := Aside0.mk (Below.refl w.heap.size w)
  clear h
  by_cases hl : l1.length > 70
  · have d1 : decide ((70 : Int) < (l1.length : Int)) = true := decide_eq_true (by omega)
    have d2 : (70 < l1.length) = True := eq_true hl
    go_enter Try.func6, Try.ntmps6
    go_wp2_with fail
    refine (sequiturlaw20_alive.calls k _ HP.out).mono ?_
    rintro e' w1 ⟨rfl, hb⟩
    have n_ := Aside0.mk (below_step HB.out hb)
    clear hb
    go_wp2
    go_ret
    exact ⟨rfl, n_.out⟩
  · have d1 : decide ((70 : Int) < (l1.length : Int)) = false := decide_eq_false (by omega)
    have d2 : (70 < l1.length) = False := eq_false hl
    go_enter Try.func6, Try.ntmps6
    go_wp2_with fail
    refine (eng_Push.nobody a0 _).mono ?_
    rintro e' w1 ⟨rfl, rfl⟩
    go_wp2_with fail
    refine (eng_Pop.nobody _).mono ?_
    rintro e' w1 ⟨rfl, rfl⟩
    go_wp2_with fail
    refine (eng_Add.nobody A1 l1.length c1 _).mono ?_
    rintro e' w1 ⟨rfl, rfl⟩
    go_wp2_with fail
    refine (eng_Value.nobody a0 _).mono ?_
    rintro e' w1 ⟨rfl, rfl⟩
    go_wp2_with fail
    refine (eng_Trail.nobody _).mono ?_
    rintro e' w1 ⟨rfl, rfl⟩
    go_wp2_with fail
    refine (eng_Level.nobody a0 _).mono ?_
    rintro e' w1 ⟨rfl, hb⟩
    have n_ := Aside0.mk (below_step HB.out hb)
    clear hb HB
    have HB := n_
    clear n_
    go_wp2_with fail
    refine (eng_Why.nobody a0 _).mono ?_
    rintro e' w1 ⟨rfl, hb⟩
    have n_ := Aside0.mk (below_step HB.out hb)
    clear hb HB
    have HB := n_
    clear n_
    go_wp2_with fail
    refine (eng_Broken.nobody _).mono ?_
    rintro e' w1 ⟨rfl, rfl⟩
    go_wp2_with fail
    refine (eng_Levels.nobody _).mono ?_
    rintro e' w1 ⟨rfl, rfl⟩
    go_wp2_with fail
    refine (sequiturlaw20_alive.calls k _ HP.out).mono ?_
    rintro e' w1 ⟨rfl, hb⟩
    have n_ := Aside0.mk (below_step HB.out hb)
    clear hb
    go_wp2
    go_ret
    exact ⟨rfl, n_.out⟩


end Go.Proofs.Ytfcofpgehlmbbaa.P
