import Derived.Lib.SliceRun
import Derived.Deep.DeepCutAuto
import Derived.Deep.RegionLaw
import Derived.Shelf.RegionOpenPlain
import Derived.StillTailTactics
import Derived.Test.YtaibnbhgjnddnaaKSolveOnce1
import Derived.Test.YtaibnbhgjnddnaaKSolveOnce6
import Derived.Test.YtaibnbhgjnddnaaKSolveOnce2
import Derived.Test.YtaibnbhgjnddnaaKSolveOnce7
-- Printed by wip/tools/pp.py of this claim's session (over the kit's print.py); Lean checks it.
namespace Go.Proofs.Ytaibnbhgjnddnaa.P
open Go.RowKit Go.Proofs.YtaibnbhgjnddnaaW.PrintWords Go.Proofs.YtaibnbhgjnddnaaW.PrintLast Go.Proofs.YtaibnbhgjnddnaaW.PrintMore
attribute [local go_sem] max2_int min2_int max_two min_two max_three min_three max_four min_four   -- for this text's walks alone
set_option linter.unusedVariables false
set_option linter.unusedSimpArgs false

-- SOLO
-- IMPORTS Derived.Lib.SliceRun Derived.Deep.DeepCutAuto Derived.Deep.RegionLaw Derived.Shelf.RegionOpenPlain Derived.Test.YtaibnbhgjnddnaaShelf
/-! ### lit_Clean: function 51 -/
/-- How two numbers compare. -/
def cmpI (a b : Int) : Int := if a < b then -1 else if b < a then 1 else 0
/-- How two literals compare: by their variables, then themselves. -/
def cmpL (a b : Int) : Int := if cmpI (a.natAbs : Int) (b.natAbs : Int) ≠ 0 then cmpI (a.natAbs : Int) (b.natAbs : Int) else cmpI a b
set_option maxRecDepth 100000 in
theorem cmp_isNaN.calls (a : Int) (W : World) : Calls Try.prog 83 #[.int .i64 a] W fun e W' => e = .returned (.bool false) ∧ W' = W := by
  go_enter Try.func83, Try.ntmps83
  go_wp2
  all_goals (go_ret; exact ⟨by simp, rfl⟩)
set_option maxRecDepth 100000 in
theorem cmp_Compare.calls (a b : Int) (W : World) : Calls Try.prog 74 #[.int .i64 a, .int .i64 b] W fun e W' => e = .returned (.int .i64 (cmpI a b)) ∧ W' = W := by
  unfold cmpI
  by_cases h1 : a < b
  · rw [if_pos h1]
    go_enter Try.func74, Try.ntmps74
    go_wp2_with fail
    refine (cmp_isNaN.calls a W).mono ?_
    rintro e w' ⟨rfl, rfl⟩
    go_wp2_with fail
    refine (cmp_isNaN.calls b _).mono ?_
    rintro e w' ⟨rfl, rfl⟩
    go_wp2
    go_ret
    exact ⟨rfl, rfl⟩
  · rw [if_neg h1]
    by_cases h2 : b < a
    · rw [if_pos h2]
      go_enter Try.func74, Try.ntmps74
      go_wp2_with fail
      refine (cmp_isNaN.calls a W).mono ?_
      rintro e w' ⟨rfl, rfl⟩
      go_wp2_with fail
      refine (cmp_isNaN.calls b _).mono ?_
      rintro e w' ⟨rfl, rfl⟩
      go_wp2
      go_ret
      exact ⟨rfl, rfl⟩
    · rw [if_neg h2]
      go_enter Try.func74, Try.ntmps74
      go_wp2_with fail
      refine (cmp_isNaN.calls a W).mono ?_
      rintro e w' ⟨rfl, rfl⟩
      go_wp2_with fail
      refine (cmp_isNaN.calls b _).mono ?_
      rintro e w' ⟨rfl, rfl⟩
      go_wp2
      go_ret
      exact ⟨rfl, rfl⟩
set_option maxRecDepth 100000 in
theorem cmp_Or.calls (a b : Int) (g : Nat) (W : World) (h0 : W.cell? ⟨g, 0, none⟩ = some (.int .i64 a)) (h1 : W.cell? ⟨g, 1, none⟩ = some (.int .i64 b)) :
    Calls Try.prog 73 #[.slice (some ⟨g, 0, none⟩) 2 2] W fun e W' => e = .returned (.int .i64 (if a ≠ 0 then a else b)) ∧ W' = W := by
  go_enter Try.func73, Try.ntmps73
  go_wp2
  go_loopg [5, 8] 2 (fun gg _ v8 wr => ∃ j : Nat, v8 = .int .i64 (j : Int) ∧ wr = W ∧ Aside0 (j + gg = 2) ∧ Aside0 (0 < j → a = 0) ∧ Aside0 (1 < j → b = 0))
  case atStart => exact ⟨0, rfl, rfl, ⟨rfl⟩, ⟨fun h => by omega⟩, ⟨fun h => by omega⟩⟩
  case round =>
    obtain ⟨j, rfl, rfl, hg, ha, hb⟩ := hrel
    rcases Nat.lt_or_ge j 2 with hj | hj
    · rcases Nat.lt_or_ge j 1 with hj1 | hj1
      · obtain rfl : j = 0 := by omega
        by_cases hz : a = 0
        · subst hz
          go_wp2
          go_roundg 1
          case measure => have := hg.out; omega
          case rel => exact ⟨1, rfl, rfl, ⟨rfl⟩, ⟨by simp⟩, ⟨fun h => by omega⟩⟩
        · have c1 : (a != 0) = true := by simpa using hz
          go_wp2
          go_ret
          exact ⟨rfl, rfl⟩
      · obtain rfl : j = 1 := by omega
        have hz := ha.out (by omega)
        subst hz
        by_cases hy : b = 0
        · subst hy
          go_wp2
          go_roundg 0
          case measure => have := hg.out; omega
          case rel => exact ⟨2, rfl, rfl, ⟨rfl⟩, ⟨by simp⟩, ⟨by simp⟩⟩
        · have c1 : (b != 0) = true := by simpa using hy
          go_wp2
          go_ret
          exact ⟨by simp, rfl⟩
    · obtain rfl : j = 2 := by have := hg.out; omega
      have hz := ha.out (by omega)
      have hy := hb.out (by omega)
      subst hz hy
      go_wp2
      go_ret
      exact ⟨by simp, rfl⟩
theorem mx_abs {a : Int} (h : (a ≠ 0 ∧ a ≠ -9223372036854775808) ∧ -9223372036854775808 ≤ a ∧ a ≤ 9223372036854775807) : lit_variable.f a = some (a.natAbs : Int) := by
  unfold lit_variable.f mx wrap64
  split <;> (congr 1; omega)
theorem drewN_drewN (W : World) (m n : Nat) : (W.drewN m).drewN n = W.drewN (m + n) := by
  show ({ W with drawn := W.drawn + m + n } : World) = { W with drawn := W.drawn + (m + n) }
  rw [Nat.add_assoc]
open Go.Sort in
set_option maxRecDepth 100000 in
/-- The comparing closure: it may draw, and lays a block. -/
theorem lit_Clean_1.calls (a b : Int) (W : World) :
    Calls Try.prog 72 #[.int .i64 a, .int .i64 b] W fun e W' => e = .returned (.int .i64 (if cmpI (mx a (wrap64 (-a))) (mx b (wrap64 (-b))) ≠ 0 then cmpI (mx a (wrap64 (-a))) (mx b (wrap64 (-b))) else cmpI a b)) ∧ ∃ q os, W' = grow (W.drewN q) os := by
  have H1 := Aside0.mk (lit_variable.calls a (mx a (wrap64 (-a))) W rfl)
  obtain ⟨x, hx⟩ : ∃ x, mx a (wrap64 (-a)) = x := ⟨_, rfl⟩
  obtain ⟨y, hy⟩ : ∃ y, mx b (wrap64 (-b)) = y := ⟨_, rfl⟩
  rw [hx] at H1
  have HY := Aside0.mk hy
  rw [hx, hy]
  clear hx hy
  obtain ⟨p, hp⟩ : ∃ p, cmpI x y = p := ⟨_, rfl⟩
  obtain ⟨r, hr⟩ : ∃ r, cmpI a b = r := ⟨_, rfl⟩
  have HP := Aside0.mk hp
  have HR := Aside0.mk hr
  rw [hp, hr]
  obtain ⟨u, hu⟩ : ∃ u, (if p ≠ 0 then p else r) = u := ⟨_, rfl⟩
  have HU := Aside0.mk hu
  rw [hu]
  clear hp hr hu
  go_enter Try.func72, Try.ntmps72
  go_wp2_with fail
  refine H1.out.mono ?_
  rintro e w1 ⟨rfl, ⟨⟨n1, rfl⟩⟩⟩
  go_wp2_with fail
  refine (lit_variable.calls b y (W.drewN n1) (by rw [← HY.out]; rfl)).mono ?_
  rintro e w2 ⟨rfl, ⟨⟨n2, rfl⟩⟩⟩
  go_wp2_with fail
  refine (cmp_Compare.calls x y _).mono ?_
  rintro e w3 ⟨rfl, rfl⟩
  rw [HP.out]
  go_wp2_with fail
  refine (cmp_Compare.calls a b _).mono ?_
  rintro e w4 ⟨rfl, rfl⟩
  rw [HR.out]
  go_wp2_with fail
  refine (cmp_Or.calls p r _ _ (by have := blk_cell (blk_new (W.drewN (n1 + n2)) (.cells #[.int .i64 p, .int .i64 r] 3)) 0; exact this) (by have := blk_cell (blk_new (W.drewN (n1 + n2)) (.cells #[.int .i64 p, .int .i64 r] 3)) 1; exact this)).mono ?_
  rintro e w5 ⟨he, rfl⟩
  rw [HU.out] at he
  subst he
  go_wp2
  go_ret
  exact ⟨rfl, n1 + n2, #[.cells #[.int .i64 p, .int .i64 r] 3], by rw [alloc_eq_grow]⟩
/-- How the closure compares. -/
def cfL (a b : Int) : Int := if cmpI (mx a (wrap64 (-a))) (mx b (wrap64 (-b))) ≠ 0 then cmpI (mx a (wrap64 (-a))) (mx b (wrap64 (-b))) else cmpI a b
theorem cmpI_lt {a b : Int} : cmpI a b < 0 ↔ a < b := by unfold cmpI; split <;> (try split) <;> omega
theorem cmpI_ne {a b : Int} : cmpI a b ≠ 0 ↔ a ≠ b := by unfold cmpI; split <;> (try split) <;> omega
theorem cfL_lt {a b : Int} : cfL a b < 0 ↔ mx a (wrap64 (-a)) < mx b (wrap64 (-b)) ∨ (mx a (wrap64 (-a)) = mx b (wrap64 (-b)) ∧ a < b) := by
  unfold cfL
  by_cases h : mx a (wrap64 (-a)) = mx b (wrap64 (-b))
  · rw [if_neg (by rw [cmpI_ne]; simpa using h), cmpI_lt]; omega
  · rw [if_pos (cmpI_ne.2 h), cmpI_lt]; omega
open Go.Sort Go.Proofs in
theorem cfL_swo : SWO (ltOf cfL) := by
  refine ⟨fun x => ?_, fun x y z h1 h2 => ?_, fun x y z h1 h2 => ?_⟩
  · exact decide_eq_false (by rw [cfL_lt]; omega)
  · have h1 := of_decide_eq_true h1
    have h2 := of_decide_eq_true h2
    exact decide_eq_true (by rw [cfL_lt] at h1 h2 ⊢; omega)
  · have h1 := of_decide_eq_false h1
    have h2 := of_decide_eq_false h2
    exact decide_eq_false (by rw [cfL_lt] at h1 h2 ⊢; omega)
open Go.Sort Go.Lib Go.Proofs in
set_option maxRecDepth 100000 in
/-- The sort of literals, over a row of one's own. -/
theorem slices_SortFunc_lits.calls (xs : List Int) (g n cap base : Nat) (ok : Nat → Prop) (W : World) (h : Kd.R (Kd.int .i64) 3 W base ok (.slice (some ⟨g, 0, none⟩) n cap) xs) (hlen : xs.length < 4611686018427387904) :
    Calls Try.prog 71 #[.slice (some ⟨g, 0, none⟩) n cap, .func (.func 72) #[] #[]] W fun e W' => e = .returned (.tuple #[]) ∧ Kd.R (Kd.int .i64) 3 W' base ok (.slice (some ⟨g, 0, none⟩) n cap) (xs.mergeSort fun x y => !(ltOf cfL) y x) ∧
      (∃ W1, (∃ q, W1 = W.drewN q) ∧ ∃ W2, W1.grownBy W2 (some g) ∧ Below W2.heap.size W2 W') := by
  obtain ⟨hn, hnc, hC⟩ := Kd.R_reads' h
  have hbig := hC.2.1
  have hblk : g < W.heap.size := by
    obtain ⟨inner, ho⟩ := Kd.R_own h
    exact own_lt ho g rfl
  have key := Try.slices_SortFunc_total (Value.int .i64) (fun _ => rfl) cfL cfL_swo 72 #[] g 0 cap xs.toArray W (enters_of Try.func72 (by kernel_rfl) rfl)
    (fun m os dk hs x y => calls_of_args (args := #[.int .i64 x, .int .i64 y]) rfl (lit_Clean_1.calls x y _)) (R_holds h) hblk (by simp; omega) (fun x y h1 h2 => by
      have h1 := of_decide_eq_false h1
      have h2 := of_decide_eq_false h2
      rw [cfL_lt] at h1 h2
      omega)
  have hsz : xs.toArray.size = n := by simp [hn]
  rw [hsz] at key
  refine key.mono ?_
  rintro e W' ⟨rfl, q, os, rfl⟩
  obtain ⟨hR, hg⟩ := R_rowPut (xs.mergeSort fun x y => !(ltOf cfL) y x) (by rw [List.length_mergeSort]) q h
  obtain ⟨hR2, hb2⟩ := R_grow os hR
  exact ⟨rfl, hR2, _, ⟨q, rfl⟩, _, hg, hb2⟩
open Go.Sort Go.Lib Go.Proofs in
/-- Compact, over a row of one's own. -/
theorem slices_Compact_R.calls (xs : List Int) (g n cap base : Nat) (ok : Nat → Prop) (W : World) (h : Kd.R (Kd.int .i64) 3 W base ok (.slice (some ⟨g, 0, none⟩) n cap) xs) (hle : (Lib.compact xs).length ≤ xs.length) :
    Calls Try.prog 75 #[.slice (some ⟨g, 0, none⟩) n cap] W fun e W' => e = .returned (.slice (some ⟨g, 0, none⟩) (Lib.compact xs).length cap) ∧ Kd.R (Kd.int .i64) 3 W' base ok (.slice (some ⟨g, 0, none⟩) (Lib.compact xs).length cap) (Lib.compact xs) ∧
      ∃ q, (W.drewN q).grownBy W' (some g) := by
  obtain ⟨hn, hnc, hC⟩ := Kd.R_reads' h
  have hbig := hC.2.1
  have key := Try.slices_Compact_int g 0 cap xs W (R_holds h) (by omega) (by omega)
  rw [← hn] at key
  refine key.mono ?_
  rintro e W' ⟨rfl, q, rfl⟩
  obtain ⟨hR, hg⟩ := R_rowPut (Lib.compact xs ++ List.replicate (n - (Lib.compact xs).length) 0) (by simp; omega) q h
  have hT := Kd.R_take hR (m := (Lib.compact xs).length) (by simp)
  rw [List.take_left'  rfl] at hT
  exact ⟨rfl, hT, q, hg⟩
/-- Two neighbours are opposites. -/
def adjB : List Int → Bool
  | x :: y :: t => (y == wrap64 (-x)) || adjB (y :: t)
  | _ => false
def lit_Clean.out (c : List Int) : List Int := Lib.compact ((c.filter fun l => (lit_is.f l).getD false).mergeSort fun x y => !(Go.Proofs.ltOf cfL) y x)
def lit_Clean.f (l0 : List Int) : Option (List Int × Bool) := if l0.length < 17592186044416 ∧ (lit_Clean.out l0).length ≤ l0.length then some (lit_Clean.out l0, !adjB (lit_Clean.out l0)) else none
set_option maxRecDepth 100000 in
set_option maxHeartbeats 4000000 in
theorem lit_Clean.calls (A0 : Option Addr) (c0 : Nat) (l0 : List Int) (r1 : List Int) (r2 : Bool) (w : World) (hr0 : Kd.C (Kd.int .i64) w A0 l0.length l0) (hc0 : l0.length ≤ c0) (h : lit_Clean.f l0 = some (r1, r2)) :
    Calls Try.prog 51 #[.slice A0 l0.length c0] w fun e w' => ∃ v0_ : Value, e = .returned (.tuple #[v0_, .bool r2]) ∧ Kd.R (Kd.int .i64) 3 w' w.heap.size (fun _ => True) v0_ r1 ∧ Below w.heap.size w w' := by
  unfold lit_Clean.f at h
  by_cases hlen0 : ¬ (l0.length < 17592186044416 ∧ (lit_Clean.out l0).length ≤ l0.length)
  · rw [if_neg hlen0] at h; cases h
  obtain ⟨hlen, hle⟩ := Decidable.not_not.1 hlen0
  rw [if_pos ⟨hlen, hle⟩] at h
  simp only [Option.some.injEq, Prod.mk.injEq] at h
  obtain ⟨rfl, rfl⟩ := h
  have HR := Aside0.mk hr0
  obtain ⟨p, hp⟩ : ∃ p : Int → Bool, p = fun l => (lit_is.f l).getD false := ⟨_, rfl⟩
  have his : ∀ a, lit_is.f a = some (p a) := fun a => by
    rw [hp]
    unfold lit_is.f
    dsimp only
    split <;> rfl
  have HIS := Aside0.mk his
  have HLN := Aside0.mk hlen
  have HLE := Aside0.mk hle
  have HO := Aside0.mk (show lit_Clean.out l0 = Lib.compact ((l0.filter p).mergeSort fun x y => !(Go.Proofs.ltOf cfL) y x) from by rw [hp]; rfl)
  clear hr0 hlen0 hlen hle hp his
  go_enter Try.func51, Try.ntmps51
  go_wp2
  go_loopg [4, 6, 10] l0.length (fun gg v4 _ v10 wr => ∃ i : Nat, v10 = .int .i64 (i : Int) ∧ Aside0 (i + gg = l0.length) ∧ Aside0 (Kd.R (Kd.int .i64) 3 wr w.heap.size (fun _ => True) v4 ((l0.take i).filter p)) ∧ Aside0 (Below w.heap.size w wr))
  case atStart => exact ⟨0, rfl, ⟨by simp⟩, ⟨Kd.R_nil _ _ _ _ _⟩, ⟨Below.refl _ _⟩⟩
  case round =>
    obtain ⟨i, rfl, hg, hR, hB⟩ := hrel
    obtain ⟨A4, c4, rfl⟩ := Kd.R_slice hR.out
    by_cases hlt : i < l0.length
    · obtain ⟨ad, e1, x1⟩ := Kd.at_int (Kd.C_below HR.out hB.out) (i : Int) (by omega) (by omega)
      cases e1
      obtain ⟨y, hy⟩ : ∃ y, l0[i] = y := ⟨_, rfl⟩
      have hrd : rd l0 (i : Int) = y := by simp [rd, hlt, hy]
      rw [hrd] at x1
      simp only [Int.toNat_natCast] at x1
      have htk : (l0.take (i + 1)).filter p = (l0.take i).filter p ++ if p y = true then [y] else [] := by
        rw [List.take_add_one, List.getElem?_eq_getElem hlt, hy, List.filter_append]
        cases hpy : p y <;> simp [hpy]
      have HT := Aside0.mk htk
      have hfl : ((l0.take i).filter p).length ≤ i := Nat.le_trans (List.length_filter_le _ _) (by simp; omega)
      have P0 : ((0 : Int) ≤ (i : Int)) = True := eq_true (by omega)
      have P1 : ((i : Int) < (l0.length : Int)) = True := eq_true (by omega)
      have P2 : (i < l0.length) = True := eq_true hlt
      have hd : decide ((i : Int) < (l0.length : Int)) = true := decide_eq_true (by omega)
      have hln := HLN.out
      clear hrd htk hy
      cases hq : p y with
      | true =>
        have hcall := Aside0.mk (lit_is.calls y true wr (by rw [HIS.out, hq]))
        have hz := HT.out
        rw [if_pos hq] at hz
        have HZ := Aside0.mk hz
        clear hz HT hq
        go_wp2_with fail
        refine hcall.out.mono ?_
        rintro e' w1 ⟨rfl, ⟨⟨n1, rfl⟩⟩⟩
        have hR1 := Aside0.mk (Kd.R_drewN hR.out n1)
        have hB1 := Aside0.mk (pw_below_drewN hB.out n1)
        go_wp2_with (at_builtin; refine Kd.R_append (Kd.int .i64) (w0 := w) w.heap.size rfl (.tmp 16) (.tmp 18) 25 3 (.int .i64 0) 8 rfl Try.underlying25 (by kernel_rfl) rfl (by decide) (by decide) _ ((l0.take i).filter p) y [.int .i64 y] (fun _ => True) (fun _ => False) rfl rfl rfl (fun _ h => h.elim) (fun _ _ => trivial) hR1.out hB1.out hB1.out.size (by omega) ?_; intro v1 w3 r1 hb3 hg3 hat3)
        go_roundg (l0.length - (i + 1))
        case measure => have := hg.out; omega
        case rel => exact ⟨i + 1, by simp, ⟨by have := hg.out; omega⟩, ⟨by rw [HZ.out]; exact r1⟩, ⟨hb3⟩⟩
      | false =>
        have hcall := Aside0.mk (lit_is.calls y false wr (by rw [HIS.out, hq]))
        have hz := HT.out
        rw [if_neg (by rw [hq]; decide), List.append_nil] at hz
        have HZ := Aside0.mk hz
        clear hz HT hq
        go_wp2_with fail
        refine hcall.out.mono ?_
        rintro e' w1 ⟨rfl, ⟨⟨n1, rfl⟩⟩⟩
        go_wp2
        go_roundg (l0.length - (i + 1))
        case measure => have := hg.out; omega
        case rel => exact ⟨i + 1, by simp, ⟨by have := hg.out; omega⟩, ⟨by rw [HZ.out]; exact Kd.R_drewN hR.out n1⟩, ⟨pw_below_drewN hB.out n1⟩⟩
    · have hd : decide ((i : Int) < (l0.length : Int)) = false := decide_eq_false (by omega)
      have P2 : (i < l0.length) = False := eq_false hlt
      have htake : (l0.take i).filter p = l0.filter p := by rw [List.take_of_length_le (by omega)]
      have hRf := hR.out
      rw [htake] at hRf ⊢
      obtain ⟨fl, hfl⟩ : ∃ fl, l0.filter p = fl := ⟨_, rfl⟩
      have hflen : fl.length ≤ l0.length := by rw [← hfl]; exact List.length_filter_le _ _
      have hout := HO.out
      rw [hfl] at hRf hout ⊢
      have HRF := Aside0.mk hRf
      have HOUT := Aside0.mk hout
      have HB := hB
      have hln := HLN.out
      clear hRf hR htake hfl hout hB HO hg HIS
      have fin : ∀ (v : Value) (W : World), Kd.R (Kd.int .i64) 3 W w.heap.size (fun _ => True) v (lit_Clean.out l0) → True := fun _ _ _ => trivial
      by_cases hz : fl.length = 0
      · have hnil : fl = [] := List.length_eq_zero_iff.1 hz
        subst hnil
        have hce : Lib.compact (([] : List Int).mergeSort fun x y => !(Go.Proofs.ltOf cfL) y x) = [] := List.length_eq_zero_iff.1 (Nat.le_zero.1 (Nat.le_trans (Lib.compact_length_le _) (by simp)))
        have HO2 := Aside0.mk (HOUT.out.trans hce)
        clear HOUT hce HLE hz
        go_wp2_with fail
        refine (Try.slices_SortFunc_none (α := Int) A4 c4 _ wr).mono ?_
        rintro e' w1 ⟨rfl, rfl⟩
        go_wp2_with fail
        refine (Try.slices_Compact_int_empty A4 c4 _).mono ?_
        rintro e' w2 ⟨rfl, rfl⟩
        go_wp2
        go_loopg [7] 0 (fun gg v7 wr2 => v7 = .int .i64 1 ∧ wr2 = w2)
        case atStart => exact ⟨rfl, rfl⟩
        case round =>
          obtain ⟨rfl, rfl⟩ := hrel
          go_wp2
          go_ret2
          rw [HO2.out]
          exact ⟨_, rfl, HRF.out, HB.out⟩
      · obtain ⟨inner, ho⟩ := Kd.R_own HRF.out
        obtain ⟨g, rfl⟩ : ∃ g, A4 = some ⟨g, 0, none⟩ := by
          rcases ho.2 with ⟨e1, e2⟩ | ⟨g, cap, cur, e1, _⟩
          · omega
          · injection e1 with e1 _ _; exact ⟨g, e1⟩
        have hgb : w.heap.size ≤ g := own_base ho g rfl
        clear ho
        have hle : (Lib.compact (fl.mergeSort fun x y => !(Go.Proofs.ltOf cfL) y x)).length ≤ (fl.mergeSort fun x y => !(Go.Proofs.ltOf cfL) y x).length := Lib.compact_length_le _
        have HLE2 := Aside0.mk hle
        clear hle
        go_wp2_with fail
        refine (slices_SortFunc_lits.calls fl g fl.length c4 w.heap.size (fun _ => True) wr HRF.out (by omega)).mono ?_
        rintro e' w1 ⟨rfl, hR1, W1, ⟨q1, rfl⟩, W2, hg1, hb1⟩
        have HR1 := Aside0.mk hR1
        have hB2 : Below w.heap.size w W2 := (pw_below_drewN HB.out q1).grown hg1 (pw_below_drewN HB.out q1).size (fun k e => by cases e; exact hgb)
        have HB1 := Aside0.mk (hB2.trans (hb1.mono hB2.size))
        clear hR1 hB2 hg1 hb1
        go_wp2_with fail
        refine (slices_Compact_R.calls _ g fl.length c4 w.heap.size (fun _ => True) w1 HR1.out HLE2.out).mono ?_
        rintro e' w2 ⟨rfl, hR2, q2, hg2⟩
        rw [← HOUT.out] at hR2
        try rw [← HOUT.out]
        have HR2 := Aside0.mk hR2
        have HB2 := Aside0.mk ((pw_below_drewN HB1.out q2).grown hg2 (pw_below_drewN HB1.out q2).size (fun k e => by cases e; exact hgb))
        clear hR2 hg2 HR1 HRF HB1
        obtain ⟨out, hout⟩ : ∃ out, lit_Clean.out l0 = out := ⟨_, rfl⟩
        rw [hout] at HR2 HLE ⊢
        have HO2 := Aside0.mk hout
        clear hout HOUT HLE2
        have hol := HLE.out
        go_wp2
        go_loopg [7] out.length (fun gg v7 wr => ∃ j : Nat, v7 = .int .i64 (j : Int) ∧ 1 ≤ j ∧ Aside0 (out.length ≤ j + gg) ∧ Aside0 (Kd.R (Kd.int .i64) 3 wr w.heap.size (fun _ => True) (.slice (some ⟨g, 0, none⟩) out.length c4) out) ∧ Aside0 (Below w.heap.size w wr) ∧ Aside0 (adjB (out.drop (j - 1)) = adjB out))
        case atStart => exact ⟨1, rfl, Nat.le_refl _, ⟨by omega⟩, HR2, HB2, ⟨rfl⟩⟩
        case round =>
          clear HR2 HB2 HB
          obtain ⟨j, rfl, hj1, hg, hR, hB, hA⟩ := hrel
          by_cases hjt : j < out.length
          · obtain ⟨y, hy⟩ : ∃ y, out[j] = y := ⟨_, rfl⟩
            obtain ⟨x, hx⟩ : ∃ x, out[j - 1] = x := ⟨_, rfl⟩
            obtain ⟨c1, _⟩ := Kd.R_celln (0 : Int) hR.out (j : Int) (by omega) (by omega)
            obtain ⟨c2, _⟩ := Kd.R_celln (0 : Int) hR.out ((j : Int) - 1) (by omega) (by omega)
            have ej : rdOf 0 out (j : Int) = y := by simp [rdOf, hjt, hy]
            have ex : rdOf 0 out ((j : Int) - 1) = x := by rw [show (j : Int) - 1 = ((j - 1 : Nat) : Int) by omega]; simp [rdOf, show j - 1 < out.length by omega, hx]
            rw [ej] at c1
            rw [ex] at c2
            simp only [Int.toNat_natCast] at c1
            rw [show ((j : Int) - 1).toNat = j - 1 by omega] at c2
            have hA2 := hA.out
            rw [List.drop_eq_getElem_cons (show j - 1 < out.length by omega), hx, show j - 1 + 1 = j by omega, List.drop_eq_getElem_cons hjt, hy, adjB] at hA2
            have HA2 := Aside0.mk hA2
            have HY := Aside0.mk (show out.drop j = y :: out.drop (j + 1) by rw [List.drop_eq_getElem_cons hjt, hy])
            have P0 : ((0 : Int) ≤ (j : Int)) = True := eq_true (by omega)
            have P1 : ((j : Int) < (out.length : Int)) = True := eq_true (by omega)
            have P2 : (j < out.length) = True := eq_true hjt
            have P3 : ((1 : Int) ≤ (j : Int)) = True := eq_true (by omega)
            have P4 : ((j : Int) - 1 < (out.length : Int)) = True := eq_true (by omega)
            have hd : decide ((j : Int) < (out.length : Int)) = true := decide_eq_true (by omega)
            have P5 : IntKind.i64.wrap ((j : Int) - 1) = (j : Int) - 1 := Go.IntWalk.i64_in _ (by omega)
            have P6 : IntKind.i64.wrap (-x) = wrap64 (-x) := Go.IntWalk.i64_left _
            have mixed : Try.prog.follows .mixedOrders = true := by kernel_rfl
            clear hA hA2 ej ex hx hy
            go_wp2_with fail
            go_cut [41] (fun v41 wc => v41 = .bool (y == wrap64 (-x)) ∧ wc = wr.drew)
            case first =>
              go_region_law_o (fail)
              all_goals (go_wp2_with fail; go_meet; exact ⟨rfl, rfl⟩)
            case rest =>
            obtain ⟨rfl, rfl⟩ := hcut
            have HRd := Aside0.mk (Kd.R_drew hR.out)
            have HBd := Aside0.mk (below_drew hB.out)
            cases hq : (y == wrap64 (-x)) with
            | true =>
              have hz := HA2.out
              rw [hq, Bool.true_or] at hz
              have HZ := Aside0.mk hz
              clear hz
              go_wp2
              go_ret2
              rw [HO2.out, ← HZ.out]
              exact ⟨_, rfl, HRd.out, HBd.out⟩
            | false =>
              have hz := HA2.out
              rw [hq, Bool.false_or] at hz
              have HZ := Aside0.mk hz
              clear hz
              go_wp2
              go_roundg (out.length - j - 1)
              case measure => have := hg.out; omega
              case rel => exact ⟨j + 1, by simp, by omega, ⟨by omega⟩, HRd, HBd, ⟨by rw [show j + 1 - 1 = j by omega, HY.out]; exact HZ.out⟩⟩
          · have hd : decide ((j : Int) < (out.length : Int)) = false := decide_eq_false (by omega)
            have P2 : (j < out.length) = False := eq_false hjt
            have hz : adjB out = false := by
              rw [← hA.out]
              have hl : (out.drop (j - 1)).length ≤ 1 := by rw [List.length_drop]; omega
              match out.drop (j - 1), hl with
              | [], _ => rfl
              | [_], _ => rfl
              | _ :: _ :: _, hl => exact absurd hl (by simp)
            have HZ := Aside0.mk hz
            clear hz
            go_wp2
            go_ret2
            rw [HO2.out, HZ.out]
            exact ⟨_, rfl, hR.out, hB.out⟩


end Go.Proofs.Ytaibnbhgjnddnaa.P

-- Printed by wip/tools/pp.py of this claim's session (over the kit's print.py); Lean checks it.
namespace Go.Proofs.Ytaibnbhgjnddnaa.P
open Go.RowKit Go.Proofs.YtaibnbhgjnddnaaW.PrintWords Go.Proofs.YtaibnbhgjnddnaaW.PrintLast Go.Proofs.YtaibnbhgjnddnaaW.PrintMore
attribute [local go_sem] max2_int min2_int max_two min_two max_three min_three max_four min_four   -- for this text's walks alone
set_option linter.unusedVariables false
set_option linter.unusedSimpArgs false

-- SOLO
-- IMPORTS Derived.Test.YtaibnbhgjnddnaaPxAunitEng
/-! ### unit_Engine_lay: function 35 -/
/-- A literal stands in a clause more. -/
def Eng.wput (E : Eng) (n x : Int) : Eng := { E with wt := fun y => if y = x then E.wt x ++ [n] else E.wt y, ws := E.ws + 1 }
def Eng.layW (E : Eng) (n : Int) (c : List Int) : Eng := c.foldl (fun E x => E.wput n x) E
/-- A clause more, its literals rising. -/
def Eng.laid (E : Eng) (c : List Int) : Eng := { E.layW (E.cls.length : Int) c with cls := E.cls ++ [c] }
theorem Eng.layW_same (n : Int) : ∀ (c : List Int) (E : Eng), (E.layW n c).cls = E.cls ∧ (E.layW n c).tr = E.tr ∧ (E.layW n c).st = E.st ∧ (E.layW n c).ms = E.ms ∧ (E.layW n c).n = E.n ∧ (E.layW n c).br = E.br ∧ (E.layW n c).ws = E.ws + c.length
  | [], E => ⟨rfl, rfl, rfl, rfl, rfl, rfl, rfl⟩
  | x :: c, E => by
    obtain ⟨h1, h2, h3, h4, h5, h6, h7⟩ := Eng.layW_same n c (E.wput n x)
    exact ⟨h1, h2, h3, h4, h5, h6, by have : (Eng.layW E n (x :: c)).ws = (Eng.layW (E.wput n x) n c).ws := rfl; rw [this, h7]; show E.ws + 1 + c.length = E.ws + (c.length + 1); omega⟩
theorem Eng.layW_snoc (E : Eng) (n : Int) (c : List Int) (x : Int) : E.layW n (c ++ [x]) = (E.layW n c).wput n x := by
  unfold Eng.layW; rw [List.foldl_append]; rfl
set_option maxRecDepth 100000 in
set_option maxHeartbeats 4000000 in
theorem eng_lay.calls (E : Eng) (B : Nat) (T : Tag) (p : EngP) (A0 : Option Addr) (c0 : Nat) (l0 r1 : List Int) (r2 : Bool) (w : World) (h : EngIn w B T E p) (hr0 : Kd.C (Kd.int .i64) w A0 l0.length l0) (hc0 : l0.length ≤ c0) (hcl : lit_Clean.f l0 = some (r1, r2)) (hwf : ∀ x ∈ r1, (Lit.int .i64 x).wf = true) (hws : E.ws + r1.length < 4398046511104) (hcn : E.cls.length + 1 < 5864062014805) :
    Calls Try.prog 35 #[.pointer (some ⟨B, 0, none⟩), .slice A0 l0.length c0] w fun e w' => e = .returned (.tuple #[]) ∧ ∃ T' p', EngIn w' B T' (E.laid r1) p' ∧ Moved T T' w w' := by
  have HE := Aside0.mk h
  have HWF := Aside0.mk hwf
  have HSZ := Aside0.mk hws
  have HCN := Aside0.mk hcn
  have HCL := Aside0.mk (lit_Clean.calls A0 c0 l0 r1 r2 w hr0 hc0 hcl)
  clear h hwf hws hcn hr0 hcl
  go_enter Try.func35, Try.ntmps35
  go_wp2_with fail
  refine HCL.out.mono ?_
  rintro e' w1 ⟨v0, rfl, hR0, hb0⟩
  obtain ⟨h1, m1, hR1⟩ := HE.out.newrow hb0 hR0
  obtain ⟨T1, hT1⟩ : ∃ T1, retag T w v0 (3, 0) = T1 := ⟨_, rfl⟩
  rw [hT1] at h1 m1 hR1
  obtain ⟨A4, k4, rfl⟩ := Kd.R_slice hR1
  have H1 := Aside0.mk h1
  have M1 := Aside0.mk m1
  have R1 := Aside0.mk hR1
  have hbig := (Kd.R_reads' hR1).2.2.2.1
  clear h1 m1 hR1 hR0 hb0 HE HCL hT1
  obtain ⟨n, hn⟩ : ∃ n, E.cls.length = n := ⟨_, rfl⟩
  have HN := Aside0.mk hn
  go_wp2
  go_loopg [7, 15] r1.length (fun gg _ v15 wr => ∃ (j : Nat) (T1 : Tag) (p1 : EngP), v15 = .int .i64 (j : Int) ∧ Aside0 (j + gg = r1.length) ∧ Aside0 (EngIn wr B T1 (E.layW (n : Int) (r1.take j)) p1) ∧ Aside0 (Moved T T1 w wr) ∧ Aside0 (Kd.R (Kd.int .i64) 3 wr 0 (fun k => T1 k = (3, 0)) (.slice A4 r1.length k4) r1))
  case atStart => exact ⟨0, T1, p, rfl, ⟨by simp⟩, H1, M1, R1⟩
  case round =>
    clear H1 M1 R1
    obtain ⟨j, T1, p1, rfl, hg, HE, HM, HR⟩ := hrel
    obtain ⟨E1, hE1⟩ : ∃ E1, E.layW (n : Int) (r1.take j) = E1 := ⟨_, rfl⟩
    rw [hE1] at HE
    obtain ⟨s1, s2, s3, s4, s5, s6, s7⟩ := E.layW_same (n : Int) (r1.take j)
    rw [hE1] at s1 s7
    have HE1 := Aside0.mk hE1
    by_cases hlt : j < r1.length
    · obtain ⟨ad, e1, x1⟩ := Kd.at_int (Kd.R_reads' HR.out).2.2 (j : Int) (by omega) (by omega)
      cases e1
      obtain ⟨y, hy⟩ : ∃ y, r1[j] = y := ⟨_, rfl⟩
      have hrd : rd r1 (j : Int) = y := by simp [rd, hlt, hy]
      rw [hrd] at x1
      simp only [Int.toNat_natCast] at x1
      have HY := Aside0.mk (show r1.take (j + 1) = r1.take j ++ [y] by rw [List.take_add_one, List.getElem?_eq_getElem hlt, hy]; rfl)
      have HWF := Aside0.mk (HWF.out y (by rw [← hy]; exact List.getElem_mem hlt))
      have hb0 : Below wr.heap.size wr wr.drew := below_drew (Below.refl _ _)
      have hD := HE.out.below hb0
      have hRD := Kd.R_below HR.out hb0
      obtain ⟨A1, k1, e1⟩ := Kd.R_slice hD.cls
      have c2 := hD.cells.2.2.1
      have c1 := hD.cells.2.1
      rw [e1, hD.len, s1, hn] at c1
      have hgr := hD.grp y
      obtain ⟨Ag, kg, eg⟩ := Kd.R_slice hgr
      have cq := hD.wt.look Try.underlying3 Try.underlying67 (zero_rowL wr.drew) HWF.out
      rw [eg] at cq hgr
      have hws := hD.wsz y
      obtain ⟨ws, hws0⟩ : ∃ ws, E1.wt y = ws := ⟨_, rfl⟩
      rw [hws0] at cq hgr hws
      obtain ⟨N1, hN1⟩ : ∃ N1 : Nat, n = N1 := ⟨_, rfl⟩
      rw [hN1] at c1
      obtain ⟨L, hL, hLl⟩ := hD.cov
      have hsz := HSZ.out
      have htl : (r1.take j).length ≤ j := List.length_take_le _ _
      have HWS := Aside0.mk (show ws.length < 4398046511104 by omega)
      have hLn : L.length < 4398046511104 := by omega
      -- behind an alloc, and behind an append to the group
      have haft : ∀ w1, wr.drew.grownBy w1 (Value.slice Ag ws.length kg).ownBlock → w1.cell? ⟨B, 2, none⟩ = some (.map (some p1.bw)) ∧ w1.cell? ⟨B, 1, none⟩ = some (.slice A1 N1 k1) ∧ (Instr.lookup 67 (.map (some p1.bw)) (.int .i64 y) false).run Try.prog w1 = .ok (.slice Ag ws.length kg) w1 ∧ MapI Try.prog 3 w1 p1.bw p1.fw := fun w1 hg1 => by
        have hv := hgr.1
        have a2 := hD.after hv (tag_ne (by decide) _ _) hg1 2
        have a1 := hD.after hv (tag_ne (by decide) _ _) hg1 1
        have hM : MapI Try.prog 3 w1 p1.bw p1.fw := hD.wt.block (hg1.block _ hD.wt.lt (fun e => by have this : T1 p1.bw = (8, y) := hv _ e.symm; rw [hD.tW] at this; exact absurd (congrArg Prod.fst this) (show (7 : Int) ≠ 8 by decide)))
        refine ⟨a2.1, ?_, ?_, hM⟩
        · rw [a1.1]
          show some p1.vC = _
          rw [e1, hD.len, s1, hn, hN1]
        · have := hM.look Try.underlying3 Try.underlying67 (zero_rowL w1) HWF.out
          rw [this, eg, hws0]
      have hba : Below wr.drew.heap.size wr.drew (wr.drew.alloc (.cells #[.int .i64 (N1 : Int)] 3)) := below_alloc (Below.refl _ _) _
      have d2 := pw_cell_below hba c2
      have d1 := pw_cell_below hba c1
      have dq : (Instr.lookup 67 (.map (some p1.bw)) (.int .i64 y) false).run Try.prog (wr.drew.alloc (.cells #[.int .i64 (N1 : Int)] 3)) = .ok (.slice Ag ws.length kg) (wr.drew.alloc (.cells #[.int .i64 (N1 : Int)] 3)) := by
        have := (hD.below hba).wt.look Try.underlying3 Try.underlying67 (zero_rowL _) HWF.out
        rw [this, eg, hws0]
      have HAFT := Aside0.mk haft
      have HD := Aside0.mk hD
      have HG := Aside0.mk hgr
      have HRD := Aside0.mk hRD
      have HMD := Aside0.mk (HM.out.trans (Moved.of_below hb0))
      have HEG := Aside0.mk eg
      have HW0 := Aside0.mk hws0
      have HN1 := Aside0.mk hN1
      have P0 : ((0 : Int) ≤ (j : Int)) = True := eq_true (by omega)
      have P1 : ((j : Int) < (r1.length : Int)) = True := eq_true (by omega)
      have P2 : (j < r1.length) = True := eq_true hlt
      have hd : decide ((j : Int) < (r1.length : Int)) = true := decide_eq_true (by omega)
      clear haft hD hgr hRD eg hws0 hN1 hy hrd hba hb0 e1 hws s1 s2 s3 s4 s5 s6 s7 hE1 HE HM HR
      have HL := Aside0.mk hL
      clear hL
      go_wp2
      refine start_ (n := 19) (S := fun w' => w'.cell? ⟨B, 2, none⟩ = some (.map (some p1.bw)) ∧ w'.cell? ⟨B, 1, none⟩ = some (.slice A1 N1 k1) ∧ (Instr.lookup 67 (.map (some p1.bw)) (.int .i64 y) false).run Try.prog w' = .ok (.slice Ag ws.length kg) w') (ds := [18]) #[false, false, false, false, false, false, false, false, false, false, false, false, false, false, false, false, false, false, false] (by kernel_rfl) rfl rfl ⟨c2, c1, cq⟩ (fun hHeld => ?_)
      refine pure_ (i := 0) (N := some 19) (v := ?_) (a' := ?_) #[true, false, false, false, false, false, false, false, false, false, false, false, false, false, false, false, false, false, false] rfl rfl (by kernel_rfl) (fun _ _ _ h => h) (Or.inl ⟨by rfl, ?_⟩) ?_ ?_
      rotate_left
      · intro w'
        go_simp
        with_reducible rfl
      rotate_left
      · simp only [Act.put, List.setIfInBounds_toArray, List.set_cons_zero, List.set_cons_succ, i64_w, i32_w]
        rfl
      refine pure_ (i := 1) (N := some 20) (v := ?_) (a' := ?_) #[true, true, false, false, false, false, false, false, false, false, false, false, false, false, false, false, false, false, false] rfl rfl (by kernel_rfl) (fun _ _ _ h => h) (Or.inl ⟨by rfl, ?_⟩) ?_ ?_
      rotate_left
      · intro w'
        go_simp
        with_reducible rfl
      rotate_left
      · simp only [Act.put, List.setIfInBounds_toArray, List.set_cons_zero, List.set_cons_succ, i64_w, i32_w]
        rfl
      refine pure_ (i := 2) (N := some 21) (v := ?_) (a' := ?_) #[true, true, true, false, false, false, false, false, false, false, false, false, false, false, false, false, false, false, false] rfl rfl (by kernel_rfl) (fun _ _ _ h => h) (Or.inl ⟨by rfl, ?_⟩) ?_ ?_
      rotate_left
      · intro w'
        go_simp
        with_reducible rfl
      rotate_left
      · simp only [Act.put, List.setIfInBounds_toArray, List.set_cons_zero, List.set_cons_succ, i64_w, i32_w]
        rfl
      refine pure_ (i := 4) (N := some 23) (v := ?_) (a' := ?_) #[true, true, true, false, true, false, false, false, false, false, false, false, false, false, false, false, false, false, false] rfl rfl (by kernel_rfl) (fun _ _ _ h => h) (Or.inl ⟨by rfl, ?_⟩) ?_ ?_
      rotate_left
      · intro w'
        go_simp
        with_reducible rfl
      rotate_left
      · simp only [Act.put, List.setIfInBounds_toArray, List.set_cons_zero, List.set_cons_succ, i64_w, i32_w]
        rfl
      refine pure_ (i := 5) (N := some 24) (v := ?_) (a' := ?_) #[true, true, true, false, true, true, false, false, false, false, false, false, false, false, false, false, false, false, false] rfl rfl (by kernel_rfl) (fun _ _ _ h => h) (Or.inl ⟨by rfl, ?_⟩) ?_ ?_
      rotate_left
      · intro w'
        go_simp
        with_reducible rfl
      rotate_left
      · simp only [Act.put, List.setIfInBounds_toArray, List.set_cons_zero, List.set_cons_succ, i64_w, i32_w]
        rfl
      refine pure_ (i := 6) (N := some 25) (v := ?_) (a' := ?_) #[true, true, true, false, true, true, true, false, false, false, false, false, false, false, false, false, false, false, false] rfl rfl (by kernel_rfl) (fun _ _ _ h => h) (Or.inl ⟨by rfl, ?_⟩) ?_ ?_
      rotate_left
      · intro w'
        go_simp
        with_reducible rfl
      rotate_left
      · simp only [Act.put, List.setIfInBounds_toArray, List.set_cons_zero, List.set_cons_succ, i64_w, i32_w]
        rfl
      refine pure_ (i := 7) (N := some 26) (v := ?_) (a' := ?_) #[true, true, true, false, true, true, true, true, false, false, false, false, false, false, false, false, false, false, false] rfl rfl (by kernel_rfl) (fun _ _ _ h => h) (Or.inl ⟨by rfl, ?_⟩) ?_ ?_
      rotate_left
      · intro w'
        go_simp
        with_reducible rfl
      rotate_left
      · simp only [Act.put, List.setIfInBounds_toArray, List.set_cons_zero, List.set_cons_succ, i64_w, i32_w]
        rfl
      refine pure_ (i := 9) (N := some 28) (v := ?_) (a' := ?_) #[true, true, true, false, true, true, true, true, false, true, false, false, false, false, false, false, false, false, false] rfl rfl (by kernel_rfl) (fun _ _ _ h => h) (Or.inl ⟨by rfl, ?_⟩) ?_ ?_
      rotate_left
      · intro w'
        go_simp
        with_reducible rfl
      rotate_left
      · simp only [Act.put, List.setIfInBounds_toArray, List.set_cons_zero, List.set_cons_succ, i64_w, i32_w]
        rfl
      refine pure_ (i := 11) (N := some 30) (v := ?_) (a' := ?_) #[true, true, true, false, true, true, true, true, false, true, false, true, false, false, false, false, false, false, false] rfl rfl (by kernel_rfl) (fun _ _ _ h => h) (Or.inl ⟨by rfl, ?_⟩) ?_ ?_
      rotate_left
      · intro w'
        go_simp
        with_reducible rfl
      rotate_left
      · simp only [Act.put, List.setIfInBounds_toArray, List.set_cons_zero, List.set_cons_succ, i64_w, i32_w]
        rfl
      refine pure_ (i := 12) (N := some 31) (v := ?_) (a' := ?_) #[true, true, true, false, true, true, true, true, false, true, false, true, true, false, false, false, false, false, false] rfl rfl (by kernel_rfl) (fun _ _ _ h => h) (Or.inl ⟨by rfl, ?_⟩) ?_ ?_
      rotate_left
      · intro w'
        go_simp
        with_reducible rfl
      rotate_left
      · simp only [Act.put, List.setIfInBounds_toArray, List.set_cons_zero, List.set_cons_succ, i64_w, i32_w]
        rfl
      refine pure_ (i := 13) (N := some 32) (v := ?_) (a' := ?_) #[true, true, true, false, true, true, true, true, false, true, false, true, true, true, false, false, false, false, false] rfl rfl (by kernel_rfl) (fun _ _ _ h => h) (Or.inl ⟨by rfl, ?_⟩) ?_ ?_
      rotate_left
      · intro w'
        go_simp
        with_reducible rfl
      rotate_left
      · simp only [Act.put, List.setIfInBounds_toArray, List.set_cons_zero, List.set_cons_succ, i64_w, i32_w]
        rfl
      refine take_ (i := 3) (N := some 22) (v := ?_) (a' := ?_) #[true, true, true, true, true, true, true, true, false, true, false, true, true, true, false, false, false, false, false] rfl rfl (by kernel_rfl) (fun _ _ _ h => h) (Or.inl ⟨by rfl, ?_⟩) hHeld ?_ ?_
      rotate_left
      · rintro w' ⟨s0, s1, s2⟩
        go_simp
        with_reducible rfl
      rotate_left
      · simp only [Act.put, List.setIfInBounds_toArray, List.set_cons_zero, List.set_cons_succ, i64_w, i32_w]
        rfl
      refine take_ (i := 8) (N := some 27) (v := ?_) (a' := ?_) #[true, true, true, true, true, true, true, true, true, true, false, true, true, true, false, false, false, false, false] rfl rfl (by kernel_rfl) (fun _ _ _ h => h) (Or.inl ⟨by rfl, ?_⟩) hHeld ?_ ?_
      rotate_left
      · rintro w' ⟨s0, s1, s2⟩
        go_simp
        with_reducible rfl
      rotate_left
      · simp only [Act.put, List.setIfInBounds_toArray, List.set_cons_zero, List.set_cons_succ, i64_w, i32_w]
        rfl
      refine take_ (i := 10) (N := some 29) (v := ?_) (a' := ?_) #[true, true, true, true, true, true, true, true, true, true, true, true, true, true, false, false, false, false, false] rfl rfl (by kernel_rfl) (fun _ _ _ h => h) (Or.inl ⟨by rfl, ?_⟩) hHeld ?_ ?_
      rotate_left
      · rintro w' ⟨s0, s1, s2⟩
        go_simp
        with_reducible rfl
      rotate_left
      · simp only [Act.put, List.setIfInBounds_toArray, List.set_cons_zero, List.set_cons_succ, i64_w, i32_w]
        rfl
      refine take_ (i := 14) (N := some 33) (v := ?_) (a' := ?_) #[true, true, true, true, true, true, true, true, true, true, true, true, true, true, true, false, false, false, false] rfl rfl (by kernel_rfl) (fun _ _ _ h => h) (Or.inl ⟨by rfl, ?_⟩) hHeld ?_ ?_
      rotate_left
      · rintro w' ⟨s0, s1, s2⟩
        go_simp
        with_reducible rfl
      rotate_left
      · simp only [Act.put, List.setIfInBounds_toArray, List.set_cons_zero, List.set_cons_succ, i64_w, i32_w]
        rfl
      refine pure_ (i := 15) (N := some 34) (v := ?_) (a' := ?_) #[true, true, true, true, true, true, true, true, true, true, true, true, true, true, true, true, false, false, false] rfl rfl (by kernel_rfl) (fun _ _ _ h => h) (Or.inl ⟨by rfl, ?_⟩) ?_ ?_
      rotate_left
      · intro w'
        go_simp
        with_reducible rfl
      rotate_left
      · simp only [Act.put, List.setIfInBounds_toArray, List.set_cons_zero, List.set_cons_succ, i64_w, i32_w]
        rfl
      refine one_ (i := 16) (N := some 35) #[true, true, true, true, true, true, true, true, true, true, true, true, true, true, true, true, true, false, false] rfl rfl (by kernel_rfl) (by decide) (fun K hK => ?_)
      refine value_ (w1 := ?_) (v := ?_) (by rfl) rfl ?_ ?_
      rotate_left 2
      · go_simp
        constructor
        · rfl
        · rfl
      refine hK.out _ _ ⟨d2, d1, dq⟩ (fun hHeld => ?_)
      clear hK K
      refine norm_ (a' := ?_) ?_ ?_
      rotate_left
      · show Act.put _ (some 35) _ = _
        simp only [Act.put, List.setIfInBounds_toArray, List.set_cons_zero, List.set_cons_succ, i64_w, i32_w]
        rfl
      refine one_ (i := 17) (N := some 36) #[true, true, true, true, true, true, true, true, true, true, true, true, true, true, true, true, true, true, false] rfl rfl (by kernel_rfl) (by decide) (fun K hK => ?_)
      refine Kd.R_append_step (Kd.int .i64) (w0 := wr.drew) (W := wr.drew) 0 (by rfl) (.tmp 29) (.tmp 35) 25 3 (.int .i64 0) 8 rfl Try.underlying25 (by kernel_rfl) rfl (by decide) (by decide) (.slice Ag ws.length kg) ws (N1 : Int) [.int .i64 (N1 : Int)] (fun k => T1 k = (8, y) ∨ wr.drew.heap.size ≤ k) (fun _ => False) (by rfl) (by rfl) rfl (fun _ h => h.elim) (fun k hk => .inr hk) (Kd.R_mono HG.out (fun _ hk => .inl hk)) (Below.refl 0 _) (Nat.zero_le _) (by have := HWS.out; omega) ?_
      intro v1 w1 r1' hb1 hg1 hat1
      obtain ⟨f2, f1, fq, hMw⟩ := HAFT.out w1 hg1
      refine hK.out _ _ ⟨f2, f1, fq⟩ (fun hHeld => ?_)
      clear hK K
      refine norm_ (a' := ?_) ?_ ?_
      rotate_left
      · show Act.put _ (some 36) _ = _
        simp only [Act.put, List.setIfInBounds_toArray, List.set_cons_zero, List.set_cons_succ, i64_w, i32_w]
        rfl
      refine last_ (i := 18) (N := none) #[true, true, true, true, true, true, true, true, true, true, true, true, true, true, true, true, true, true, true] rfl rfl (by kernel_rfl) (by decide) (fun K hK => ?_)
      refine step_store_I (by rfl) (.tmp 22) (.tmp 23) (.tmp 36) 67 rfl 3 25 Try.underlying3 Try.underlying67 p1.bw p1.fw (by rfl) hMw y v1 (by rfl) (by rfl) HWF.out L HL.out (by omega) ?_
      intro w2 hM2 hg2
      refine hK.out _ _ ?_
      clear hK K
      refine done_ (by kernel_rfl) ?_
      have hgw : wr.drew.grownBy w1 ((p1.fw y).getD (.slice none 0 0)).ownBlock := by rw [HEG.out, HW0.out]; exact hg1
      obtain ⟨T2, p2, h2, m2, hk2⟩ : ∃ T2 p2, EngIn w2 B T2 { E1 with wt := fun y' => if y' = y then ws ++ [(N1 : Int)] else E1.wt y', ws := E1.ws + 1 } p2 ∧ Moved T1 T2 wr.drew w2 ∧ (∀ {v : Value} {zs : List Int}, Kd.R (Kd.int .i64) 3 wr.drew 0 (fun k => T1 k = (3, 0)) v zs → Kd.R (Kd.int .i64) 3 w2 0 (fun k => T2 k = (3, 0)) v zs) := ⟨_, _, HD.out.turn_wt r1' hgw hM2 hg2 (by have := HD.out.wsz y; rw [HW0.out] at this; simp; omega)⟩
      have H2 := Aside0.mk h2
      have M2 := Aside0.mk (HMD.out.trans m2)
      have R2 := Aside0.mk (hk2 HRD.out)
      clear h2 m2 hk2 r1' hgw hM2 hg2 hg1 hb1 hat1 hMw f2 f1 fq
      go_wp2
      go_roundg (r1.length - (j + 1))
      case measure => have := hg.out; omega
      case rel =>
        refine ⟨j + 1, T2, p2, by simp, ⟨by have := hg.out; omega⟩, ?_, M2, R2⟩
        have h := H2.out
        rw [HY.out, Eng.layW_snoc, HE1.out]
        refine ⟨?_⟩
        unfold Eng.wput
        rw [HW0.out, HN1.out]
        exact h
    · have hd : decide ((j : Int) < (r1.length : Int)) = false := decide_eq_false (by omega)
      have P2 : (j < r1.length) = False := eq_false hlt
      have htk : r1.take j = r1 := List.take_of_length_le (by omega)
      rw [htk] at hE1
      clear s1 s2 s3 s4 s5 s6 s7 HE1
      obtain ⟨s1, s2, s3, s4, s5, s6, s7⟩ := E.layW_same (n : Int) r1
      rw [hE1] at s1 s7
      have c1 := HE.out.cells.2.1
      have f1 := HE.out.cells.2.2.2.2.2.2.2 1
      have HE1 := Aside0.mk hE1
      have HS1 := Aside0.mk s1
      have hcn := HCN.out
      have hl : p1.hs.length + 1 < 5864062014805 := by rw [HE.out.len, s1]; exact hcn
      have HLN := Aside0.mk hl
      clear s1 s2 s3 s4 s5 s6 s7 hE1 htk hl
      go_wp2_with (at_builtin; refine Kd.R_append kH (w0 := wr) 0 rfl (.tmp 42) (.tmp 44) 22 25 (.slice none 0 0) 24 rfl Try.underlying22 (by kernel_rfl) rfl (by decide) (by decide) p1.vC p1.hs ((A4, r1.length, k4) : Hd) [.slice A4 r1.length k4] (fun k => T1 k = (2, 0) ∨ wr.heap.size ≤ k) (fun _ => False) rfl rfl rfl (fun _ h => h.elim) (fun k hk => .inr hk) (Kd.R_mono HE.out.cls (fun _ hk => .inl hk)) (Below.refl 0 _) (Nat.zero_le _) (by have := HLN.out; omega) ?_; intro v1 w1 rr hb1 hg1 hat1; obtain ⟨A1, k1, e1⟩ := Kd.R_slice rr; rw [List.length_append, List.length_singleton] at e1; subst e1; obtain ⟨c31, f31⟩ : w1.cell? ⟨B, 1, none⟩ = some p1.vC ∧ w1.frozen? ⟨B, 1, none⟩ = false := HE.out.after HE.out.cls.1 (by decide) hg1 1)
      go_end0
      obtain ⟨a1, a2⟩ := HE.out.turn_cls (a := (A4, r1.length, k4)) HR.out rr hg1
      have e : ({ E1 with cls := E1.cls ++ [r1] } : Eng) = E.laid r1 := by
        unfold Eng.laid
        rw [HN.out, HE1.out, HS1.out]
      rw [e] at a1
      exact ⟨rfl, _, _, a1, HM.out.trans a2⟩
theorem Eng.laid_same (E : Eng) (c : List Int) : (E.laid c).br = E.br ∧ (E.laid c).tr = E.tr ∧ (E.laid c).cls = E.cls ++ [c] ∧ (E.laid c).st = E.st ∧ (E.laid c).n = E.n ∧ (E.laid c).ms = E.ms ∧ (E.laid c).ws = E.ws + c.length := by
  obtain ⟨h1, h2, h3, h4, h5, h6, h7⟩ := E.layW_same (E.cls.length : Int) c
  exact ⟨h6, h2, rfl, h3, h5, h4, h7⟩
theorem Eng.laid_lits {E : Eng} {c : List Int} (h : E.Lits) (hc : ∀ x ∈ c, (Lit.int .i64 x).wf = true) : (E.laid c).Lits := fun d hd => by
  rw [(E.laid_same c).2.2.1] at hd
  rcases List.mem_append.1 hd with hd | hd
  · exact h d hd
  · rw [List.mem_singleton.1 hd]; exact hc


end Go.Proofs.Ytaibnbhgjnddnaa.P

-- Printed by wip/tools/pp.py of this claim's session (over the kit's print.py); Lean checks it.
namespace Go.Proofs.Ytaibnbhgjnddnaa.P
open Go.RowKit Go.Proofs.YtaibnbhgjnddnaaW.PrintWords Go.Proofs.YtaibnbhgjnddnaaW.PrintLast Go.Proofs.YtaibnbhgjnddnaaW.PrintMore
attribute [local go_sem] max2_int min2_int max_two min_two max_three min_three max_four min_four   -- for this text's walks alone
set_option linter.unusedVariables false
set_option linter.unusedSimpArgs false

-- SOLO
-- IMPORTS Derived.Test.YtaibnbhgjnddnaaPxAunitEng
/-! ### unit_New: function 25 -/
/-- An engine without clauses. -/
def Eng.fresh (n : Int) : Eng := ⟨n, [], fun _ => [], 0, [], fun _ => none, [], -1⟩
/-- Clauses more. -/
def Eng.lays : List (List Int) → Eng → Option Eng
  | [], E => some E
  | c :: l, E => (lit_Clean.f c).bind fun r => if E.ws + r.1.length < 4398046511104 ∧ E.cls.length + 1 < 5864062014805 then Eng.lays l (E.laid r.1) else none
/-- An engine of clauses that has gone on. -/
def Eng.new (k : Nat) (n : Int) (l : List (List Int)) : Option (Eng × Int) :=
  (cnf_Right.f k n l).bind fun r => if r.2 ≠ 0 then some (Eng.fresh n, r.2) else (Eng.lays l (Eng.fresh n)).bind fun E => (Eng.settle k E).bind fun E2 => some (E2, 0)
def NewPost (E : Eng) (B : Nat) (w w' : World) : Prop := ∃ T p, EngIn w' B T E p ∧ Below w.heap.size w w' ∧ ∀ k, k < w.heap.size → T k = (0, 0)
def newT (B : Nat) : Tag := fun k => if k = B then (1, 0) else if k + 1 = B then (6, 0) else if k + 2 = B then (7, 0) else (0, 0)
theorem EngIn.new {W W' : World} (n : Int) (hb : Below (W.heap.size + 2) ((W.alloc (.map #[] 0)).alloc (.map #[] 0)) W') (hx : W'.heap[W.heap.size + 2]? = some (.cells #[.int .i64 n, .slice none 0 0, .map (some W.heap.size), .slice none 0 0, .map (some (W.heap.size + 1)), .slice none 0 0, .int .i64 (-1)] 70 (0, 0))) :
    EngIn W' (W.heap.size + 2) (newT (W.heap.size + 2)) (Eng.fresh n) ⟨.slice none 0 0, [], .slice none 0 0, .slice none 0 0, W.heap.size, W.heap.size + 1, fun _ => none⟩ := by
  have hlt := blk_lt hx
  have m1 : MapI Try.prog 3 W' W.heap.size (fun _ => none) := by
    have h0 := MapI.made W Try.prog 3
    have h1 := h0.block (w' := (W.alloc (.map #[] 0)).alloc (.map #[] 0)) ((below_alloc (Below.refl _ _) _).block _ h0.lt)
    exact h1.block (hb.block _ (by have := h0.lt; omega))
  have m2 : MapI Try.prog 3 W' (W.heap.size + 1) (fun _ => none) := by
    have h0 := MapI.made (W.alloc (.map #[] 0)) Try.prog 3
    have e1 : (W.alloc (.map #[] 0)).heap.size = W.heap.size + 1 := by simp
    rw [e1] at h0
    exact h0.block (hb.block _ (by omega))
  have t2 : newT (W.heap.size + 2) (W.heap.size + 1) = (6, 0) := by unfold newT; rw [if_neg (by omega), if_pos (by omega)]
  have t3 : newT (W.heap.size + 2) W.heap.size = (7, 0) := by unfold newT; rw [if_neg (by omega), if_neg (by omega), if_pos rfl]
  exact { fresh := fun k hk => by unfold newT; rw [if_neg (by omega), if_neg (by omega), if_neg (by omega)], blk := hx, tB := by unfold newT; rw [if_pos rfl], cls := Kd.R_nil _ _ _ _ _, len := rfl, rows := fun i a c ha => by simp at ha, tr := Kd.R_nil _ _ _ _ _, st := Kd.R_nil _ _ _ _ _, ms := m2, tM := t2, mst := fun x hx => by simp [Eng.fresh] at hx, wt := m1, tW := t3, grp := fun x => Kd.R_nil _ _ _ _ _, cov := ⟨[], fun x hx => by simp at hx, by simp [Eng.fresh]⟩, wsz := fun x => by simp [Eng.fresh] }
set_option maxRecDepth 100000 in
set_option maxHeartbeats 4000000 in
theorem eng_New.calls (k : Nat) (n : Int) (A0 : Option Addr) (c0 : Nat) (l0 : List (List Int)) (E2 : Eng) (w : World) (hr0 : Kd.C (Kd.slice 3 (Kd.int .i64)) w A0 l0.length l0) (hc0 : l0.length ≤ c0) (hwf : ∀ c ∈ l0, ∀ r, lit_Clean.f c = some r → ∀ x ∈ r.1, (Lit.int .i64 x).wf = true) (hf : Eng.new k n l0 = some (E2, 0)) :
    Calls Try.prog 25 #[.agg #[.int .i64 n, .slice A0 l0.length c0]] w fun e w' => ∃ B, e = .returned (.tuple #[.pointer (some ⟨B, 0, none⟩), .int .i64 0]) ∧ NewPost E2 B w w' := by
  unfold Eng.new at hf
  obtain ⟨⟨ra, re⟩, hcr, hf⟩ := Option.bind_eq_some_iff.mp hf
  have hre : re = 0 := by
    by_cases h : re = 0
    · exact h
    · replace hf : (if re ≠ 0 then some (Eng.fresh n, re) else (Eng.lays l0 (Eng.fresh n)).bind fun E => (Eng.settle k E).bind fun E2 => some (E2, 0)) = some (E2, (0 : Int)) := hf
      rw [if_pos h] at hf
      simp only [Option.some.injEq, Prod.mk.injEq] at hf
      exact hf.2
  subst hre
  replace hf : ((Eng.lays l0 (Eng.fresh n)).bind fun E => (Eng.settle k E).bind fun E2 => some (E2, 0)) = some (E2, (0 : Int)) := hf
  obtain ⟨E3, hl, hf⟩ := Option.bind_eq_some_iff.mp hf
  obtain ⟨E4, hs, hf⟩ := Option.bind_eq_some_iff.mp hf
  simp only [Option.some.injEq, Prod.mk.injEq] at hf
  obtain ⟨rfl, -⟩ := hf
  have HR := Aside0.mk hr0
  have HC := Aside0.mk hc0
  have HWF := Aside0.mk hwf
  have HL := Aside0.mk hl
  have HS := Aside0.mk hs
  have HCR := Aside0.mk hcr
  have hu24 := Try.underlying24
  have hu93 := Try.underlying70
  clear hr0 hc0 hwf hl hs hcr
  have HB := Aside0.mk (Below.refl w.heap.size w)
  go_enter Try.func25, Try.ntmps25
  go_upto_region 1 with (first | ((with_reducible refine gate_dst (N := 1) rfl ?_); refine box_event ?hg (N := 1) ?hd (cs := #[.int .i64 n, .slice A0 l0.length c0]) (t := 24) ?hr ?_; (case hd => rfl); (case hg => rfl); (case hr => first | (go_simp; done) | (go_simp; rfl)); intro gb108 hg w3 hbox hb; have n0_ := Aside0.mk (below_step HB.out hb); have BK := Aside0.mk hbox; have GE := Aside0.mk (by rw [hg]; exact (below_size HB.out) : w.heap.size ≤ gb108); clear HB; have HB := n0_; clear n0_; clear hb hbox hg))
  (try simp only [Act.put, List.setIfInBounds_toArray, List.set_cons_zero, List.set_cons_succ])
  have cb0 : w3.cell? ⟨gb108, 0, none⟩ = some (.int .i64 n) := (blk_cell BK.out 0).trans rfl
  have cb1 : w3.cell? ⟨gb108, 1, none⟩ = some (.slice A0 l0.length c0) := (blk_cell BK.out 1).trans rfl
  have HCALL := Aside0.mk (cnf_Right.calls k n A0 c0 l0 ra 0 w3 (Kd.C_below HR.out HB.out) HC.out HCR.out)
  go_wp2_with fail
  refine HCALL.out.mono ?_
  rintro e' w1 ⟨rfl, hb1⟩
  have BK1 := Aside0.mk (blk_below BK.out hb1)
  have HB1 := Aside0.mk (below_step HB.out hb1)
  clear hb1 HCALL BK HB cb0 cb1
  have cb0 : w1.cell? ⟨gb108, 0, none⟩ = some (.int .i64 n) := (blk_cell BK1.out 0).trans rfl
  have cb1 : w1.cell? ⟨gb108, 1, none⟩ = some (.slice A0 l0.length c0) := (blk_cell BK1.out 1).trans rfl
  have hmm := @run_makeMap Try.prog
  have e2 : ((w1.alloc (.map #[] 0)).alloc (.map #[] 0)).heap.size = w1.heap.size + 1 + 1 := by simp
  have hx := blk_new ((w1.alloc (.map #[] 0)).alloc (.map #[] 0)) (.cells #[.int .i64 n, .slice none 0 0, .map (some w1.heap.size), .slice none 0 0, .map (some (w1.heap.size + 1)), .slice none 0 0, .int .i64 (-1)] 70)
  rw [e2] at hx
  obtain ⟨W4, hW4⟩ : ∃ W4, ((w1.alloc (.map #[] 0)).alloc (.map #[] 0)).alloc (.cells #[.int .i64 n, .slice none 0 0, .map (some w1.heap.size), .slice none 0 0, .map (some (w1.heap.size + 1)), .slice none 0 0, .int .i64 (-1)] 70) = W4 := ⟨_, rfl⟩
  have hb4 : Below w1.heap.size w1 W4 := by rw [← hW4]; exact below_alloc (below_alloc (below_alloc (Below.refl _ _) _) _) _
  have hb3 : Below (w1.heap.size + 2) ((w1.alloc (.map #[] 0)).alloc (.map #[] 0)) W4 := by
    have := below_alloc (Below.refl ((w1.alloc (.map #[] 0)).alloc (.map #[] 0)).heap.size ((w1.alloc (.map #[] 0)).alloc (.map #[] 0))) (.cells #[.int .i64 n, .slice none 0 0, .map (some w1.heap.size), .slice none 0 0, .map (some (w1.heap.size + 1)), .slice none 0 0, .int .i64 (-1)] 70)
    rw [e2, hW4] at this
    exact this
  rw [hW4] at hx
  have cb2 := (blk_cell (blk_below BK1.out hb4) 1).trans rfl
  rw [← hW4] at cb2
  have H0 := Aside0.mk (EngIn.new n hb3 hx)
  have HB4 := Aside0.mk (below_step HB1.out hb4)
  have T0 : Aside0 (∀ k, k < w.heap.size → newT (w1.heap.size + 2) k = (0, 0)) := ⟨fun k hk => by
    have := HB1.out.size
    unfold newT
    rw [if_neg (by omega), if_neg (by omega), if_neg (by omega)]⟩
  rw [← hW4] at H0 HB4
  clear hx hb3 hb4 e2 hW4
  have hbig : l0.length ≤ 9223372036854775807 := HR.out.2.1
  go_wp2
  go_loopg [8, 26] l0.length (fun gg _ v26 wr => ∃ (j : Nat) (E1 : Eng) (T1 : Tag) (p1 : EngP), v26 = .int .i64 (j : Int) ∧ Aside0 (j + gg = l0.length) ∧ Aside0 (EngIn wr (w1.heap.size + 1 + 1) T1 E1 p1) ∧ Aside0 (Below w.heap.size w wr) ∧ Aside0 (∀ k, k < w.heap.size → T1 k = (0, 0)) ∧ Aside0 E1.Lits ∧ Aside0 (Eng.lays (l0.drop j) E1 = some E3))
  case atStart => exact ⟨0, _, _, _, rfl, ⟨by simp⟩, H0, HB4, T0, ⟨fun c hc => by simp [Eng.fresh] at hc⟩, HL⟩
  case round =>
    clear H0 HB4 T0 HL cb0 cb1 cb2 hmm
    obtain ⟨j, E1, T1, p1, rfl, hg, HE, HBw, HT, HLI, HLY⟩ := hrel
    by_cases hlt : j < l0.length
    · obtain ⟨c, hc⟩ : ∃ c, l0[j] = c := ⟨_, rfl⟩
      have hrd : rd_L3 l0 (j : Int) = c := by unfold rd_L3; rw [Int.toNat_natCast, List.getD_eq_getElem?_getD, List.getElem?_eq_getElem hlt, hc]; rfl
      have hly := HLY.out
      rw [List.drop_eq_getElem_cons hlt, hc] at hly
      replace hly : ((lit_Clean.f c).bind fun r => if E1.ws + r.1.length < 4398046511104 ∧ E1.cls.length + 1 < 5864062014805 then Eng.lays (l0.drop (j + 1)) (E1.laid r.1) else none) = some E3 := hly
      obtain ⟨⟨q1, q2⟩, hcl, hly⟩ := Option.bind_eq_some_iff.mp hly
      replace hly : (if E1.ws + q1.length < 4398046511104 ∧ E1.cls.length + 1 < 5864062014805 then Eng.lays (l0.drop (j + 1)) (E1.laid q1) else none) = some E3 := hly
      by_cases hq : E1.ws + q1.length < 4398046511104 ∧ E1.cls.length + 1 < 5864062014805
      · rw [if_pos hq] at hly
        obtain ⟨ad, A1, c1, e1, x1, l1, i1⟩ := at_L3 HR.out (j : Int) (by omega) (by omega)
        cases e1
        rw [hrd] at x1 l1 i1
        have x2 := (HBw.out.cell (World.block_lt_of_cell? w _ x1)).trans x1
        simp only [Int.toNat_natCast] at x2
        have hwfc := HWF.out c (by rw [← hc]; exact List.getElem_mem hlt) (q1, q2) hcl
        have HCALL := Aside0.mk (eng_lay.calls E1 _ T1 p1 A1 c1 c q1 q2 wr HE.out (Kd.C_below i1 HBw.out) l1 hcl hwfc hq.1 hq.2)
        have P0 : ((0 : Int) ≤ (j : Int)) = True := eq_true (by omega)
        have P1 : ((j : Int) < (l0.length : Int)) = True := eq_true (by omega)
        have P2 : (j < l0.length) = True := eq_true hlt
        have hd : decide ((j : Int) < (l0.length : Int)) = true := decide_eq_true (by omega)
        have HLY2 := Aside0.mk hly
        have HLI2 := Aside0.mk (Eng.laid_lits HLI.out hwfc)
        clear hly hq x1 l1 i1 hrd hwfc hcl hc HLY
        go_wp2_with fail
        refine HCALL.out.mono ?_
        rintro e' w5 ⟨rfl, T5, p5, h5, m5⟩
        have H5 := Aside0.mk h5
        have HB5 := Aside0.mk (Below.trans HBw.out (m5.below _ HBw.out.size HT.out))
        have HT5 := Aside0.mk (show ∀ k, k < w.heap.size → T5 k = (0, 0) from fun k hk => ((m5.old k (Nat.lt_of_lt_of_le hk HBw.out.size)).1.trans (HT.out k hk)))
        clear h5 m5 HCALL x2
        go_wp2
        go_roundg (l0.length - (j + 1))
        case measure => have := hg.out; omega
        case rel => exact ⟨j + 1, _, T5, p5, by simp, ⟨by have := hg.out; omega⟩, H5, HB5, HT5, HLI2, HLY2⟩
      · rw [if_neg hq] at hly; cases hly
    · have hj : l0.drop j = [] := List.drop_eq_nil_of_le (by omega)
      have hly := HLY.out
      rw [hj] at hly
      have hE : E1 = E3 := Option.some.inj hly
      have HCALL := Aside0.mk (eng_settle.calls k E1 _ T1 p1 E4 wr HE.out HLI.out (by rw [hE]; exact HS.out))
      have hd : decide ((j : Int) < (l0.length : Int)) = false := decide_eq_false (by omega)
      have P2 : (j < l0.length) = False := eq_false hlt
      clear hly hj HLY hE
      go_wp2_with fail
      refine HCALL.out.mono ?_
      rintro e' w5 ⟨rfl, T5, p5, h5, m5, f5⟩
      have H5 := Aside0.mk h5
      have HB5 := Aside0.mk (Below.trans HBw.out (m5.below _ HBw.out.size HT.out))
      have HT5 := Aside0.mk (show ∀ k, k < w.heap.size → T5 k = (0, 0) from fun k hk => ((m5.old k (Nat.lt_of_lt_of_le hk HBw.out.size)).1.trans (HT.out k hk)))
      clear h5 m5 f5 HCALL
      go_wp2
      go_ret2
      exact ⟨_, rfl, T5, p5, H5.out, HB5.out, HT5.out⟩
set_option maxRecDepth 100000 in
set_option maxHeartbeats 2000000 in
theorem eng_New.fails (k : Nat) (n : Int) (A0 : Option Addr) (c0 : Nat) (l0 : List (List Int)) (ra re : Int) (w : World) (hr0 : Kd.C (Kd.slice 3 (Kd.int .i64)) w A0 l0.length l0) (hc0 : l0.length ≤ c0) (hcr : cnf_Right.f k n l0 = some (ra, re)) (hre : re ≠ 0) :
    Calls Try.prog 25 #[.agg #[.int .i64 n, .slice A0 l0.length c0]] w fun e w' => e = .returned (.tuple #[.pointer none, .int .i64 re]) ∧ Below w.heap.size w w' := by
  have HR := Aside0.mk hr0
  have HC := Aside0.mk hc0
  have HCR := Aside0.mk hcr
  have hu24 := Try.underlying24
  have q1 : (re != 0) = true := by simpa using hre
  have q2 : (re == 0) = false := by simpa using hre
  clear hr0 hc0 hcr hre
  have HB := Aside0.mk (Below.refl w.heap.size w)
  go_enter Try.func25, Try.ntmps25
  go_upto_region 1 with (first | ((with_reducible refine gate_dst (N := 1) rfl ?_); refine box_event ?hg (N := 1) ?hd (cs := #[.int .i64 n, .slice A0 l0.length c0]) (t := 24) ?hr ?_; (case hd => rfl); (case hg => rfl); (case hr => first | (go_simp; done) | (go_simp; rfl)); intro gb108 hg w3 hbox hb; have n0_ := Aside0.mk (below_step HB.out hb); have BK := Aside0.mk hbox; have GE := Aside0.mk (by rw [hg]; exact (below_size HB.out) : w.heap.size ≤ gb108); clear HB; have HB := n0_; clear n0_; clear hb hbox hg))
  (try simp only [Act.put, List.setIfInBounds_toArray, List.set_cons_zero, List.set_cons_succ])
  have cb0 : w3.cell? ⟨gb108, 0, none⟩ = some (.int .i64 n) := (blk_cell BK.out 0).trans rfl
  have cb1 : w3.cell? ⟨gb108, 1, none⟩ = some (.slice A0 l0.length c0) := (blk_cell BK.out 1).trans rfl
  have HCALL := Aside0.mk (cnf_Right.calls k n A0 c0 l0 ra re w3 (Kd.C_below HR.out HB.out) HC.out HCR.out)
  go_wp2_with fail
  refine HCALL.out.mono ?_
  rintro e' w1 ⟨rfl, hb1⟩
  have HB1 := Aside0.mk (below_step HB.out hb1)
  clear hb1 HCALL BK HB cb0 cb1
  go_wp2
  go_ret2
  exact ⟨rfl, HB1.out⟩


end Go.Proofs.Ytaibnbhgjnddnaa.P

-- Printed by wip/tools/pp.py of this claim's session (over the kit's print.py); Lean checks it.
namespace Go.Proofs.Ytaibnbhgjnddnaa.P
open Go.RowKit Go.Proofs.YtaibnbhgjnddnaaW.PrintWords Go.Proofs.YtaibnbhgjnddnaaW.PrintLast Go.Proofs.YtaibnbhgjnddnaaW.PrintMore
attribute [local go_sem] max2_int min2_int max_two min_two max_three min_three max_four min_four   -- for this text's walks alone
set_option linter.unusedVariables false
set_option linter.unusedSimpArgs false

-- SOLO
-- IMPORTS Derived.Test.YtaibnbhgjnddnaaPxAsolveS Derived.Test.YtaibnbhgjnddnaaPxAsolveR Derived.StillTailTactics
/-! ### solve_solver_end: function 43 -/
/-- The assumptions that are to blame. -/
def Sol.core (Z : Sol) (bl : List Int) : List Int := Z.asm.filter fun x => decide (x ∈ bl)
def Sol.blame2 (bl : List Int) (l : Int) : List Int := if l ≠ 0 then bl ++ [l] else bl
/-- What the end of a search that found nothing tells. -/
def Sol.ends (Z : Sol) (k : Nat) (bl : List Int) (l : Int) (cl : List Int) : Prop :=
  bl.length < 2199023255552 ∧ Z.asm.length < 2199023255552 ∧ (∀ x ∈ Z.asm, slices_Contains_int_int.f k (Sol.blame2 bl l) x = some (decide (x ∈ Sol.blame2 bl l))) ∧
    ∃ cl0, solve_opposites.f k (Z.core (Sol.blame2 bl l)) = some cl0 ∧ (cl0.length ≤ 64 → cl = cl0) ∧ (cl0.length > 64 → ∃ b, lit_Clean.f cl0 = some (cl, b))
/-- Rows that are told lie above the solver's world, in nothing of another's. -/
def okU (w0 : World) (U : Col) (k : Nat) : Prop := w0.heap.size ≤ k ∧ U k ≠ 5
def EndPost (w0 w : World) (U : Col) (Z : Sol) (cl core : List Int) (e : Ending) (w' : World) : Prop :=
  Below w0.heap.size w0 w' ∧ (∀ g, U g = 5 → w'.heap[g]? = w.heap[g]?) ∧ (4096 ≤ Z.log.length → e = .returned (.tuple #[.agg #[.bool false, .slice none 0 0, .slice none 0 0, .int .i64 0], .slice none 0 0, .int .i64 2])) ∧
    (Z.log.length < 4096 → ∃ vL vN, e = .returned (.tuple #[.agg #[.bool false, .slice none 0 0, vL, .int .i64 Z.steps], vN, .int .i64 0]) ∧ Kd.N k64 64 w' 0 (fun k => okU w0 U k ∧ some k ≠ vN.ownBlock) vL (Z.log ++ [⟨false, cl⟩]) ∧ Kd.R (Kd.int .i64) 3 w' 0 (okU w0 U) vN core)
set_option maxRecDepth 100000 in
set_option maxHeartbeats 8000000 in
theorem sol_end.calls (k : Nat) {w0 w : World} {S B : Nat} {T : Tag} {U0 : Col} {Z : Sol} {p : EngP} {q0 : SolP} (h0 : SolIn w0 w S B T U0 Z p q0) (A : Option Addr) (c : Nat) (bl : List Int) (l : Int) (cl : List Int)
    (hr : Kd.R (Kd.int .i64) 3 w w0.heap.size (fun k => T k = (0, 0) ∧ U0 k = 0) (.slice A bl.length c) bl) (hf : Z.ends k bl l cl) :
    Calls Try.prog 43 #[.pointer (some ⟨S, 0, none⟩), .slice A bl.length c, .int .i64 l] w fun e w' => EndPost w0 w U0 Z cl (Z.core (Sol.blame2 bl l)) e w' := by
  obtain ⟨hbl, hasm, hcon, cl0, hop, hcl1, hcl2⟩ := hf
  have hu33 := Try.underlying33
  obtain ⟨W1, hW1⟩ : ∃ W1, w.alloc (.cells #[.bool false, .slice none 0 0, .slice none 0 0, .int .i64 0] 33) = W1 := ⟨_, rfl⟩
  have hb1 : Below w.heap.size w W1 := by rw [← hW1]; exact below_alloc (Below.refl _ _) _
  have hx1 := blk_new w (.cells #[.bool false, .slice none 0 0, .slice none 0 0, .int .i64 0] 33)
  rw [hW1] at hx1
  have HX1 := Aside0.mk hx1
  have hT := h0.e.fresh _ (Nat.le_refl _)
  have hU := h0.fresh _ (Nat.le_refl _)
  have HFR0 := Aside0.mk (show ∀ k, w.heap.size ≤ k → T k = (0, 0) ∧ U0 k = 0 from fun k hk => ⟨h0.e.fresh k hk, h0.fresh k hk⟩)
  have HW0 := Aside0.mk h0.old.size
  obtain ⟨g6, hg6⟩ : ∃ g, w.heap.size = g := ⟨_, rfl⟩
  have HG0 := Aside0.mk (show w.heap.size ≤ g6 by rw [hg6]; exact Nat.le_refl _)
  have hs1 : W1.heap.size = g6 + 1 := by rw [← hW1, ← hg6]; simp
  have HS1Z := Aside0.mk hs1
  have hr1 : Kd.R (Kd.int .i64) 3 W1 w0.heap.size (fun k => (T k = (0, 0) ∧ U0 k = 0) ∧ k ≠ g6) (.slice A bl.length c) bl := Kd.R_below (Kd.R_mono (Kd.R_bound hr) (fun k hk => ⟨hk.1, by have := hk.2.2.1; omega⟩)) hb1
  have H5 := Aside0.mk (fun g (hg : U0 g = 5) => h0.five g hg)
  obtain ⟨U, q, HS1, HTU, HUN, HF5⟩ : ∃ (U : Col) (q : SolP), Aside0 (SolIn w0 W1 S B T U Z p q) ∧ Aside0 (T g6 = (0, 0) ∧ U g6 = 5) ∧ Aside0 (∀ k, k ≠ g6 → U k = U0 k) ∧ Aside0 (∀ g, U0 g = 5 → g ≠ g6 ∧ U g = 5 ∧ q.five g = w.heap[g]?) := by
    rw [hg6] at hT hU
    exact ⟨_, _, ⟨(h0.below hb1).own5 g6 (by have := HW0.out; omega) (by omega) hU hT⟩, ⟨hT, if_pos rfl⟩, ⟨fun k hk => if_neg hk⟩, ⟨fun g hg => (by
      have hne : g ≠ g6 := fun e => by rw [e, hU] at hg; cases hg
      exact ⟨hne, (if_neg hne).trans hg, (if_neg hne).trans (H5.out g hg).2.symm⟩)⟩⟩
  have HR1 := Aside0.mk (show Kd.R (Kd.int .i64) 3 W1 w0.heap.size (fun k => T k = (0, 0) ∧ U k = 0 ∧ k ≠ g6) (.slice A bl.length c) bl from Kd.R_mono hr1 (fun k hk => ⟨hk.1.1, (HUN.out k hk.2).trans hk.1.2, hk.2⟩))
  have HG6 := Aside0.mk (show ∀ k, g6 + 1 ≤ k → T k = (0, 0) ∧ U k = 0 ∧ k ≠ g6 from fun k hk => ⟨(HFR0.out k (by omega)).1, (HUN.out k (by omega)).trans (HFR0.out k (by omega)).2, by omega⟩)
  rw [hg6] at HX1
  have H5U := Aside0.mk (show ∀ g, U0 g = 5 → U g = 5 from fun g hg => (HF5.out g hg).2.1)
  have HQ5 := Aside0.mk (show ∀ W : World, (∀ g, U g = 5 → g ≠ g6 → W.heap[g]? = q.five g) → ∀ g, U0 g = 5 → W.heap[g]? = w.heap[g]? from fun W hW g hg => (hW g (HF5.out g hg).2.1 (HF5.out g hg).1).trans (HF5.out g hg).2.2)
  clear HUN hr1 HFR0 hr h0 hT hU H5 HF5
  have HBL := Aside0.mk hbl
  have HASM := Aside0.mk hasm
  have HCON := Aside0.mk hcon
  have HOP := Aside0.mk hop
  have HCL := Aside0.mk (And.intro hcl1 hcl2)
  clear hb1 hx1 hbl hasm hcon hop hcl1 hcl2 hs1
  go_enter Try.func43, Try.ntmps43
  go_upto_region 1 with fail
  clear hW1 hg6
  by_cases hl : l = 0
  · have q1 : (l != 0) = false := by rw [hl]; rfl
    have HB2 := Aside0.mk (show Sol.blame2 bl l = bl by unfold Sol.blame2; rw [if_neg (by simpa using hl)])
    clear hl
    go_upto_region 3 with fail
    obtain ⟨W2, hW2⟩ : ∃ W2, W1 = W2 := ⟨_, rfl⟩
    obtain ⟨b2, hb2⟩ : ∃ b2, bl = b2 := ⟨_, rfl⟩
    have HS2 := HS1
    have HX2 := HX1
    have HR2 := HR1
    obtain ⟨A2, hA2⟩ : ∃ A2, A = A2 := ⟨_, rfl⟩
    obtain ⟨c2, hc2⟩ : ∃ c2, c = c2 := ⟨_, rfl⟩
    have HLW := Aside0.mk (show g6 + 1 ≤ W1.heap.size by rw [HS1Z.out]; exact Nat.le_refl _)
    replace HB2 := Aside0.mk (HB2.out.trans hb2)
    rw [hW2] at HS2 HX2 HLW ⊢
    rw [hW2, hA2, hb2, hc2] at HR2
    rw [hA2, hb2, hc2]
    clear hW2 hA2 hc2 hb2 HS1 HX1 HR1
    rw [HB2.out] at HCON HOP
    have c3 := HS2.out.cells.2.2.2.1
    have hbig := (Kd.F_now HS2.out.asm).2.1
    obtain ⟨aA, haA⟩ : ∃ a, q.aA = a := ⟨_, rfl⟩
    obtain ⟨cA, hcA⟩ : ∃ a, q.cA = a := ⟨_, rfl⟩
    obtain ⟨l1, hl1⟩ : ∃ a, Z.asm = a := ⟨_, rfl⟩
    rw [haA, hcA, hl1] at c3
    rw [hl1] at hbig HCON HASM
    have HASMR := Aside0.mk (show ∀ W, SolIn w0 W S B T U Z p q → Kd.C (Kd.int .i64) W aA l1.length l1 from fun W h => by have := Kd.F_now h.asm; rw [haA, hl1] at this; exact this)
    have HCORE := Aside0.mk (show Z.core b2 = l1.filter fun x => decide (x ∈ b2) by unfold Sol.core; rw [hl1])
    clear haA hcA hl1
    go_wp2
    go_loopg [9, 25] l1.length (fun gg v9 v25 wr => ∃ (j : Nat), v25 = .int .i64 (j : Int) ∧ Aside0 (j + gg = l1.length) ∧ Aside0 (SolIn w0 wr S B T U Z p q) ∧ Aside0 (g6 + 1 ≤ wr.heap.size) ∧ Aside0 (wr.heap[g6]? = some (.cells #[.bool false, .slice none 0 0, .slice none 0 0, .int .i64 0] 33 (0, 0))) ∧ Aside0 (Kd.R (Kd.int .i64) 3 wr w0.heap.size (fun k => (T k = (0, 0) ∧ U k = 0 ∧ k ≠ g6) ∧ some k ≠ v9.ownBlock) (.slice A2 b2.length c2) b2) ∧ Aside0 (Kd.R (Kd.int .i64) 3 wr w0.heap.size (fun k => T k = (0, 0) ∧ U k = 0 ∧ k ≠ g6) v9 ((l1.take j).filter fun x => decide (x ∈ b2))))
    case atStart => exact ⟨0, rfl, ⟨by simp⟩, HS2, HLW, HX2, ⟨Kd.R_mono HR2.out (fun k hk => ⟨hk, by simp [Value.ownBlock]⟩)⟩, ⟨Kd.R_nil _ _ _ _ _⟩⟩
    case round =>
      clear HS2 HX2 HR2 HLW c3
      obtain ⟨j, rfl, hg, HSr, HLr, HXr, HRr, HAr⟩ := hrel
      by_cases hlt : j < l1.length
      · obtain ⟨ad2, e2, x2⟩ := Kd.at_int (HASMR.out _ HSr.out) (j : Int) (by omega) (by omega)
        cases e2
        obtain ⟨y, hy⟩ : ∃ y, l1[j] = y := ⟨_, rfl⟩
        have hrd : rd l1 (j : Int) = y := by simp [rd, hlt, hy]
        rw [hrd] at x2
        simp only [Int.toNat_natCast] at x2
        have Q0 : ((0 : Int) ≤ (j : Int)) = True := eq_true (by omega)
        have Q1 : ((j : Int) < (l1.length : Int)) = True := eq_true (by omega)
        have Q2 : (j < l1.length) = True := eq_true hlt
        have hd2 : decide ((j : Int) < (l1.length : Int)) = true := decide_eq_true (by omega)
        have HTK := Aside0.mk (show (l1.take (j + 1)).filter (fun x => decide (x ∈ b2)) = (l1.take j).filter (fun x => decide (x ∈ b2)) ++ [y].filter (fun x => decide (x ∈ b2)) by rw [List.take_add_one, List.getElem?_eq_getElem hlt, hy, List.filter_append]; rfl)
        have HLN2 := Aside0.mk (show (((l1.take j).filter (fun x => decide (x ∈ b2))).length + 1) * 8 ≤ 140737488355328 by
          have := List.length_filter_le (fun x => decide (x ∈ b2)) (l1.take j)
          have h2 := HASM.out
          rw [List.length_take] at this
          omega)
        have HCO := Aside0.mk (slices_Contains_int_int.calls k A2 c2 b2 y (decide (y ∈ b2)) wr (Kd.R_reads' HRr.out).2.2 (Kd.R_reads' HRr.out).2.1 (HCON.out y (by rw [← hy]; exact List.getElem_mem hlt)))
        clear hy hrd
        go_wp2_with fail
        refine HCO.out.mono ?_
        rintro e' w5 ⟨rfl, ⟨nd, rfl⟩⟩
        have hbd : Below wr.heap.size wr (wr.drewN nd) := pw_below_drewN (Below.refl _ _) nd
        have HS5 := Aside0.mk (HSr.out.below hbd)
        have HX5 := Aside0.mk (blk_below HXr.out hbd)
        have HR5 := Aside0.mk (Kd.R_below HRr.out hbd)
        have HA5 := Aside0.mk (Kd.R_below HAr.out hbd)
        have HL5 := Aside0.mk (show g6 + 1 ≤ (wr.drewN nd).heap.size from HLr.out)
        obtain ⟨w5, hw5⟩ : ∃ w5, wr.drewN nd = w5 := ⟨_, rfl⟩
        rw [hw5] at HS5 HX5 HR5 HA5 HL5 ⊢
        clear hbd HSr HXr HRr HAr HLr HCO x2 hw5
        by_cases hm : y ∈ b2
        · have dm : decide (y ∈ b2) = true := decide_eq_true hm
          rw [dm]
          have HTK2 := Aside0.mk (show (l1.take (j + 1)).filter (fun x => decide (x ∈ b2)) = (l1.take j).filter (fun x => decide (x ∈ b2)) ++ [y] by rw [HTK.out, List.filter_cons_of_pos (p := fun x => decide (x ∈ b2)) dm, List.filter_nil])
          clear dm hm HTK
          obtain ⟨acc, hacc⟩ : ∃ acc, (l1.take j).filter (fun x => decide (x ∈ b2)) = acc := ⟨_, rfl⟩
          rw [hacc] at HA5 HTK2 HLN2
          clear hacc
          go_wp2_with (at_builtin; refine Kd.R_append (Kd.int .i64) (w0 := w0) (W := w5) w0.heap.size rfl (.tmp 32) (.tmp 34) 25 3 (.int .i64 0) 8 rfl Try.underlying25 (by kernel_rfl) rfl (by decide) (by decide) u9 acc y [.int .i64 y] (fun k => T k = (0, 0) ∧ U k = 0 ∧ k ≠ g6) (fun _ => False) rfl rfl rfl (fun _ h => h.elim) (fun k hk => HG6.out k (by have := HL5.out; omega)) HA5.out HS5.out.old HS5.out.old.size HLN2.out ?_; intro v8 w8 r8 hb8 hg8 hat8)
          have HS8 := Aside0.mk (HS5.out.grown hg8 (fun k e => ⟨(HA5.out.1 k e).1, (HA5.out.1 k e).2.1, Kd.R_base HA5.out k e⟩))
          have HX8 := Aside0.mk (blk_grown HX5.out hg8 (fun e => (HA5.out.1 g6 e.symm).2.2 rfl))
          have HA8 := Aside0.mk r8
          have HR8 := Aside0.mk (Kd.R_after HR5.out hg8 hat8)
          have HL8 := Aside0.mk (Nat.le_trans HL5.out hg8.size)
          rw [← HTK2.out] at HA8
          clear r8 hb8 hg8 hat8 HA5 HR5 HX5 HS5 HL5
          go_wp2
          go_roundg (l1.length - (j + 1))
          case measure => have := hg.out; omega
          case rel => exact ⟨j + 1, by simp, ⟨by have := hg.out; omega⟩, HS8, HL8, HX8, HR8, HA8⟩
        · have dm : decide (y ∈ b2) = false := decide_eq_false hm
          rw [dm]
          have HA8 := HA5
          rw [show (l1.take j).filter (fun x => decide (x ∈ b2)) = (l1.take (j + 1)).filter (fun x => decide (x ∈ b2)) by rw [HTK.out, List.filter_cons_of_neg (p := fun x => decide (x ∈ b2)) (by rw [dm]; decide), List.filter_nil, List.append_nil]] at HA8
          clear dm hm HTK HA5
          go_wp2
          go_roundg (l1.length - (j + 1))
          case measure => have := hg.out; omega
          case rel => exact ⟨j + 1, by simp, ⟨by have := hg.out; omega⟩, HS5, HL5, HX5, HR5, HA8⟩
      · have hd2 : decide ((j : Int) < (l1.length : Int)) = false := decide_eq_false (by omega)
        have Q2 : (j < l1.length) = False := eq_false hlt
        have ha := HAr.out
        rw [List.take_of_length_le (by omega), ← HCORE.out] at ha
        obtain ⟨co, hco⟩ : ∃ co, Z.core b2 = co := ⟨_, rfl⟩
        rw [hco] at ha HOP
        have HCO := Aside0.mk hco
        obtain ⟨A9, c9, e9⟩ := Kd.R_slice ha
        subst e9
        have HA9 := Aside0.mk ha
        have HOPC := Aside0.mk (solve_opposites.calls k A9 c9 co cl0 _ (Kd.R_reads' ha).2.2 (Kd.R_reads' ha).2.1 HOP.out)
        clear ha HAr HRr hco
        go_wp2_with fail
        refine HOPC.out.mono ?_
        rintro e' w6 ⟨v6, rfl, r6, hb6⟩
        have hlr := HLr.out
        have HS6 := Aside0.mk (HSr.out.below hb6)
        have HX6 := Aside0.mk (blk_below HXr.out hb6)
        have HA6 := Aside0.mk (Kd.R_mono (Kd.R_below (Kd.R_bound HA9.out) hb6) (fun k hk => ⟨hk.1, fun e => by have h1 := Kd.R_base r6 k e.symm; have h2 := hk.2.2.1; omega⟩) (ok' := fun k => (T k = (0, 0) ∧ U k = 0 ∧ k ≠ g6) ∧ some k ≠ v6.ownBlock))
        have HL6 := Aside0.mk (Nat.le_trans HLr.out hb6.size)
        have HR6 := Aside0.mk (show Kd.R (Kd.int .i64) 3 w6 w0.heap.size (fun k => T k = (0, 0) ∧ U k = 0 ∧ k ≠ g6) v6 cl0 from Kd.R_of_own (Kd.own_of_R (Kd.R_lower r6 HSr.out.old.size)) (fun k hk => HG6.out k (by have := Kd.R_base r6 k hk; omega)))
        obtain ⟨A6, c6, e6⟩ := Kd.R_slice r6
        subst e6
        clear r6 hb6 hlr HSr HXr HLr HA9 HOPC
        by_cases h64 : cl0.length ≤ 64
        · have d64 : decide ((64 : Int) < (cl0.length : Int)) = false := decide_eq_false (by omega)
          have e64 : (64 < cl0.length) = False := eq_false (by omega)
          have hcl := HCL.out.1 h64
          subst hcl
          clear HCL h64
          obtain ⟨s7, m7, f7⟩ := HS6.out.color (Kd.R_mono HR6.out (fun k hk => ⟨hk.1, hk.2.1⟩))
          have HS7 := Aside0.mk s7
          have HM7 := Aside0.mk m7
          have HF7 := Aside0.mk (f7 A6 c6 rfl)
          have HC7 := Aside0.mk (Kd.R_reads' HR6.out).2.1
          have HU7 := Aside0.mk (show paint U (.slice A6 cl.length c6) 4 g6 = 5 from (if_neg (fun e => (HR6.out.1 g6 e).2.2 rfl)).trans HTU.out.2)
          obtain ⟨U7, hU7⟩ : ∃ U7, paint U (.slice A6 cl.length c6) 4 = U7 := ⟨_, rfl⟩
          have HP5 := Aside0.mk (show ∀ g, U g = 5 → paint U (.slice A6 cl.length c6) 4 g = 5 from fun g hg => (if_neg (fun e => by have := (HR6.out.1 g e).2.1; rw [hg] at this; cases this)).trans hg)
          have HUA := Aside0.mk (show ∀ k, some k ≠ (Value.slice A6 cl.length c6).ownBlock → paint U (.slice A6 cl.length c6) 4 k = U k from fun k hk => if_neg (fun e => hk e.symm))
          rw [hU7] at HS7 HM7 HF7 HU7 HP5 HUA
          clear s7 m7 f7 hU7
          by_cases hl : 4096 ≤ Z.log.length
          · go_wp2_with fail
            refine (sol_put.full HS7.out (.slice A6 cl.length c6) hl).mono ?_
            rintro e' w9 ⟨rfl, rfl⟩
            obtain ⟨⟨b0, z0⟩, ⟨b1, z1⟩, ⟨b2_, z2⟩, ⟨b3, z3⟩, b4⟩ := put4_facts HX6.out (.bool false) (.slice none 0 0) (.slice none 0 0) (.int .i64 0)
            have HB4 := Aside0.mk b4
            have HO4 := Aside0.mk (put4_below HS7.out.old (Nat.le_trans HW0.out (show _ ≤ g6 from HG0.out)) (.bool false) (.slice none 0 0) (.slice none 0 0) (.int .i64 0))
            have HLL := Aside0.mk hl
            clear b4 hl
            go_wp2
            refine bodyPost_ret (results_cell3 rfl _ _ g6 _ _ _ _ rfl HB4.out hu33 rfl (by kernel_rfl)) rfl ?_
            exact ⟨HO4.out, HQ5.out _ (fun g hg hne => (put4_far _ _ _ _ g hne).trans (HS7.out.five g (HP5.out g hg)).2), fun _ => rfl, fun h => absurd HLL.out (by omega)⟩
          · have HCALL := Aside0.mk (sol_put.calls HS7.out A6 c6 cl HC7.out HF7.out (Nat.lt_of_not_le hl))
            have HLN := Aside0.mk hl
            clear hl
            go_wp2_with fail
            refine HCALL.out.mono ?_
            rintro e' w9 ⟨rfl, hp⟩
            obtain ⟨T9, U9, p9, q9, s9, m9, k9⟩ := hp
            have HS9 := Aside0.mk s9
            have HX9 := Aside0.mk ((m9.same g6 (blk_lt HX6.out) HTU.out.1 (by rw [HU7.out]; decide)).trans HX6.out)
            have HA9 := Aside0.mk (Kd.R_mono (Kd.R_step (Kd.R_bound HA6.out) (fun k hk hl => m9.same k hl hk.1.1.1 (by rw [HUA.out k hk.1.2, hk.1.1.2.1]; decide))) (fun k hk => ⟨hk.1.1, (k9 k hk.2.2.1).trans (HUA.out k hk.1.2)⟩) (ok' := fun k => (T k = (0, 0) ∧ U k = 0 ∧ k ≠ g6) ∧ U9 k = U k))
            have H59 := Aside0.mk (show ∀ g, U g = 5 → w9.heap[g]? = q.five g from fun g hg => (by
              obtain ⟨f1, f2⟩ := HS7.out.five g (HP5.out g hg)
              have hl : g < _ := Nat.lt_of_not_le fun hle => by have := HS7.out.fresh g hle; rw [HP5.out g hg] at this; cases this
              exact (m9.same g hl f1 (by rw [HP5.out g hg]; decide)).trans f2))
            have HU95 := Aside0.mk (show ∀ g, U g = 5 → U9 g = 5 from fun g hg => (by
              have hl : g < _ := Nat.lt_of_not_le fun hle => by have := HS7.out.fresh g hle; rw [HP5.out g hg] at this; cases this
              exact (m9.ukn g hl (by rw [HP5.out g hg]; decide)).trans (HP5.out g hg)))
            have HU9 := Aside0.mk ((m9.ukn g6 (blk_lt HX6.out) (by rw [HU7.out]; decide)).trans HU7.out)
            clear s9 m9 k9 HCALL HS7 HM7 HF7 HX6 HA6 HUA
            go_upto_region 16 with fail
            obtain ⟨AL, kL, eL⟩ := Kd.N_slice HS9.out.log
            have d4 := HS9.out.cells.2.2.2.2.1
            have d5 := HS9.out.cells.2.2.2.2.2.1
            have hNL := HS9.out.log
            rw [eL] at d4 hNL
            have HNL := Aside0.mk hNL
            have dx := HX9.out
            obtain ⟨nL, hnL⟩ : ∃ nL, (Z.log ++ [(⟨false, cl⟩ : S64)]).length = nL := ⟨_, rfl⟩
            obtain ⟨st, hst⟩ : ∃ st, Z.steps = st := ⟨_, rfl⟩
            simp only [hnL, hst] at d4 d5 HNL
            have HST := Aside0.mk hst
            have e0 := blk_cell dx 0
            have e1 := blk_cell dx 1
            have e2 := blk_cell dx 2
            have e3 := blk_cell dx 3
            have y0 := blk_frozen dx 0
            have y1 := blk_frozen dx 1
            have y2 := blk_frozen dx 2
            have y3 := blk_frozen dx 3
            clear eL hNL hnL hst
            refine start_ (n := 13) (S := fun w' => w'.cell? ⟨S, 4, none⟩ = some (.slice AL nL kL) ∧ w'.cell? ⟨S, 5, none⟩ = some (.int .i64 st) ∧ w'.heap[g6]? = some (.cells #[.bool false, .slice none 0 0, .slice none 0 0, .int .i64 0] 33 (0, 0))) (ds := [10]) #[false, false, false, false, false, false, false, false, false, false, false, false, false] (by kernel_rfl) rfl rfl ⟨d4, d5, dx⟩ (fun hHeld => ?_)
            refine pure_ (i := 0) (N := some 54) (v := ?_) (a' := ?_) #[true, false, false, false, false, false, false, false, false, false, false, false, false] rfl rfl (by kernel_rfl) (fun _ _ _ h => h) (Or.inl ⟨by rfl, ?_⟩) ?_ ?_
            rotate_left
            · intro w'
              go_simp
              with_reducible rfl
            rotate_left
            · simp only [Act.put, List.setIfInBounds_toArray, List.set_cons_zero, List.set_cons_succ, i64_w, i32_w]
              rfl
            refine pure_ (i := 1) (N := some 55) (v := ?_) (a' := ?_) #[true, true, false, false, false, false, false, false, false, false, false, false, false] rfl rfl (by kernel_rfl) (fun _ _ _ h => h) (Or.inl ⟨by rfl, ?_⟩) ?_ ?_
            rotate_left
            · intro w'
              go_simp
              with_reducible rfl
            rotate_left
            · simp only [Act.put, List.setIfInBounds_toArray, List.set_cons_zero, List.set_cons_succ, i64_w, i32_w]
              rfl
            refine pure_ (i := 2) (N := some 56) (v := ?_) (a' := ?_) #[true, true, true, false, false, false, false, false, false, false, false, false, false] rfl rfl (by kernel_rfl) (fun _ _ _ h => h) (Or.inl ⟨by rfl, ?_⟩) ?_ ?_
            rotate_left
            · intro w'
              go_simp
              with_reducible rfl
            rotate_left
            · simp only [Act.put, List.setIfInBounds_toArray, List.set_cons_zero, List.set_cons_succ, i64_w, i32_w]
              rfl
            refine pure_ (i := 4) (N := some 58) (v := ?_) (a' := ?_) #[true, true, true, false, true, false, false, false, false, false, false, false, false] rfl rfl (by kernel_rfl) (fun _ _ _ h => h) (Or.inl ⟨by rfl, ?_⟩) ?_ ?_
            rotate_left
            · intro w'
              go_simp
              with_reducible rfl
            rotate_left
            · simp only [Act.put, List.setIfInBounds_toArray, List.set_cons_zero, List.set_cons_succ, i64_w, i32_w]
              rfl
            refine pure_ (i := 5) (N := some 59) (v := ?_) (a' := ?_) #[true, true, true, false, true, true, false, false, false, false, false, false, false] rfl rfl (by kernel_rfl) (fun _ _ _ h => h) (Or.inl ⟨by rfl, ?_⟩) ?_ ?_
            rotate_left
            · intro w'
              go_simp
              with_reducible rfl
            rotate_left
            · simp only [Act.put, List.setIfInBounds_toArray, List.set_cons_zero, List.set_cons_succ, i64_w, i32_w]
              rfl
            refine pure_ (i := 6) (N := some 60) (v := ?_) (a' := ?_) #[true, true, true, false, true, true, true, false, false, false, false, false, false] rfl rfl (by kernel_rfl) (fun _ _ _ h => h) (Or.inl ⟨by rfl, ?_⟩) ?_ ?_
            rotate_left
            · intro w'
              go_simp
              with_reducible rfl
            rotate_left
            · simp only [Act.put, List.setIfInBounds_toArray, List.set_cons_zero, List.set_cons_succ, i64_w, i32_w]
              rfl
            refine pure_ (i := 9) (N := some 63) (v := ?_) (a' := ?_) #[true, true, true, false, true, true, true, false, false, true, false, false, false] rfl rfl (by kernel_rfl) (fun _ _ _ h => h) (Or.inl ⟨by rfl, ?_⟩) ?_ ?_
            rotate_left
            · intro w'
              go_simp
              with_reducible rfl
            rotate_left
            · simp only [Act.put, List.setIfInBounds_toArray, List.set_cons_zero, List.set_cons_succ, i64_w, i32_w]
              rfl
            refine take_ (i := 3) (N := some 57) (v := ?_) (a' := ?_) #[true, true, true, true, true, true, true, false, false, true, false, false, false] rfl rfl (by kernel_rfl) (fun _ _ _ h => h) (Or.inl ⟨by rfl, ?_⟩) hHeld ?_ ?_
            rotate_left
            · rintro w' ⟨s0, s1, s2⟩
              go_simp
              with_reducible rfl
            rotate_left
            · simp only [Act.put, List.setIfInBounds_toArray, List.set_cons_zero, List.set_cons_succ, i64_w, i32_w]
              rfl
            refine take_ (i := 7) (N := some 61) (v := ?_) (a' := ?_) #[true, true, true, true, true, true, true, true, false, true, false, false, false] rfl rfl (by kernel_rfl) (fun _ _ _ h => h) (Or.inl ⟨by rfl, ?_⟩) hHeld ?_ ?_
            rotate_left
            · rintro w' ⟨s0, s1, s2⟩
              go_simp
              with_reducible rfl
            rotate_left
            · simp only [Act.put, List.setIfInBounds_toArray, List.set_cons_zero, List.set_cons_succ, i64_w, i32_w]
              rfl
            refine pure_ (i := 8) (N := some 62) (v := ?_) (a' := ?_) #[true, true, true, true, true, true, true, true, true, true, false, false, false] rfl rfl (by kernel_rfl) (fun _ _ _ h => h) (Or.inl ⟨by rfl, ?_⟩) ?_ ?_
            rotate_left
            · intro w'
              go_simp
              with_reducible rfl
            rotate_left
            · simp only [Act.put, List.setIfInBounds_toArray, List.set_cons_zero, List.set_cons_succ, i64_w, i32_w]
              rfl
            refine last_ (i := 10) (N := none) #[true, true, true, true, true, true, true, true, true, true, true, false, false] rfl rfl (by kernel_rfl) (by decide) (fun K hK => ?_)
            obtain ⟨⟨b0, z0⟩, ⟨b1, z1⟩, ⟨b2_, z2⟩, ⟨b3, z3⟩, b4⟩ := put4_facts hHeld.2.2 (.bool false) (.slice none 0 0) (.slice AL nL kL) (.int .i64 st)
            have HB4 := Aside0.mk b4
            clear b4 b0 b1 b2_ b3 z0 z1 z2 z3
            refine skip_ (w1 := ?_) (by rfl) rfl ?_ ?_
            rotate_left
            · go_simp
              rfl
            refine hK.out _ _ ?_
            clear hK K
            refine pure_ (i := 11) (N := some 7) (v := ?_) (a' := ?_) #[true, true, true, true, true, true, true, true, true, true, true, true, false] rfl rfl (by kernel_rfl) (fun _ _ _ h => h) (Or.inl ⟨by rfl, ?_⟩) ?_ ?_
            rotate_left
            · intro w'
              go_simp
              with_reducible rfl
            rotate_left
            · simp only [Act.put, List.setIfInBounds_toArray, List.set_cons_zero, List.set_cons_succ, i64_w, i32_w]
              rfl
            refine pure_ (i := 12) (N := some 8) (v := ?_) (a' := ?_) #[true, true, true, true, true, true, true, true, true, true, true, true, true] rfl rfl (by kernel_rfl) (fun _ _ _ h => h) (Or.inl ⟨by rfl, ?_⟩) ?_ ?_
            rotate_left
            · intro w'
              go_simp
              with_reducible rfl
            rotate_left
            · simp only [Act.put, List.setIfInBounds_toArray, List.set_cons_zero, List.set_cons_succ, i64_w, i32_w]
              rfl
            refine done_ (by kernel_rfl) ?_
            have HB5 := Aside0.mk (put4_facts dx (.bool false) (.slice none 0 0) (.slice AL nL kL) (.int .i64 st)).2.2.2.2
            have hfar := put4_far (w := w9) (g := g6) (.bool false) (.slice none 0 0) (.slice AL nL kL) (.int .i64 st)
            have HO5 := Aside0.mk (put4_below HS9.out.old (Nat.le_trans HW0.out HG0.out) (.bool false) (.slice none 0 0) (.slice AL nL kL) (.int .i64 st))
            have hge : w0.heap.size ≤ g6 := Nat.le_trans HW0.out HG0.out
            have HN5 := Aside0.mk (Kd.N_step HNL.out (fun k hk _ => hfar k (fun e => by
              subst e
              rcases hk with hk | hk
              · rw [HU9.out] at hk; cases hk.2
              · rw [HU9.out] at hk; cases hk.2)))
            have HA5 := Aside0.mk (Kd.R_step HA9.out (fun k hk _ => hfar k hk.1.2.2))
            have HCOR := Aside0.mk (show Z.core (Sol.blame2 bl l) = co by rw [HB2.out, HCO.out])
            clear hfar hge d4 d5 dx e0 e1 e2 e3 y0 y1 y2 y3
            go_wp2
            refine bodyPost_ret (results_cell3 rfl _ _ g6 _ _ _ _ rfl HB5.out hu33 rfl (by kernel_rfl)) rfl ?_
            have hdr : Below (put4 w9 g6 (.bool false) (.slice none 0 0) (.slice AL nL kL) (.int .i64 st)).heap.size (put4 w9 g6 (.bool false) (.slice none 0 0) (.slice AL nL kL) (.int .i64 st)) (put4 w9 g6 (.bool false) (.slice none 0 0) (.slice AL nL kL) (.int .i64 st)).drew := below_drew (Below.refl _ _)
            exact ⟨below_step HO5.out hdr, HQ5.out _ (fun g hg hne => (put4_far (.bool false) (.slice none 0 0) (.slice AL nL kL) (.int .i64 st) g hne).trans (H59.out g hg)), fun h => absurd h HLN.out, fun _ => ⟨_, _, by rw [HST.out]; rfl, Kd.N_mono (Kd.N_below HN5.out hdr) (fun k hk => ⟨⟨Nat.le_of_not_lt fun hlt => (by
              have h0 := (HS9.out.t0 k hlt).2
              rcases hk with hk | hk
              · rw [h0] at hk; cases hk.2
              · rw [h0] at hk; cases hk.2), fun e => (by
              have e9 := HU95.out k (H5U.out k e)
              rcases hk with hk | hk
              · rw [e9] at hk; cases hk.2
              · rw [e9] at hk; cases hk.2)⟩, fun e => (by
              have h9 := HA9.out.1 k e.symm
              have h0 := h9.2.trans h9.1.2.1
              rcases hk with hk | hk
              · rw [h0] at hk; cases hk.2
              · rw [h0] at hk; cases hk.2)⟩), by rw [HCOR.out]; exact Kd.R_mono (Kd.R_lower (Kd.R_mono (Kd.R_bound (Kd.R_below HA5.out hdr)) (fun k hk => (⟨hk.2.1, fun e => by have h9 := hk.1.1.2.1; rw [H5U.out k e] at h9; cases h9⟩ : okU w0 _ k))) (Nat.zero_le _)) (fun _ hk => hk)⟩⟩
        · have d64 : decide ((64 : Int) < (cl0.length : Int)) = true := decide_eq_true (by omega)
          have e64 : (64 < cl0.length) = True := eq_true (by omega)
          obtain ⟨bb, hcl⟩ := HCL.out.2 (by omega)
          have HCLN := Aside0.mk (lit_Clean.calls A6 c6 cl0 cl bb _ (Kd.R_reads' HR6.out).2.2 (Kd.R_reads' HR6.out).2.1 hcl)
          clear hcl HCL h64
          go_wp2_with fail
          refine HCLN.out.mono ?_
          rintro e' w7 ⟨v7, rfl, r7, hb7⟩
          have HS7 := Aside0.mk (HS6.out.below hb7)
          have HX7 := Aside0.mk (blk_below HX6.out hb7)
          have HA7 := Aside0.mk (Kd.R_mono (Kd.R_below (Kd.R_bound HA6.out) hb7) (fun k hk => ⟨hk.1.1, fun e => by have h1 := Kd.R_base r7 k e.symm; have h2 := hk.2.2.1; omega⟩) (ok' := fun k => (T k = (0, 0) ∧ U k = 0 ∧ k ≠ g6) ∧ some k ≠ v7.ownBlock))
          have HR7 := Aside0.mk (show Kd.R (Kd.int .i64) 3 w7 w0.heap.size (fun k => T k = (0, 0) ∧ U k = 0 ∧ k ≠ g6) v7 cl from Kd.R_of_own (Kd.own_of_R (Kd.R_lower r7 HS6.out.old.size)) (fun k hk => HG6.out k (Nat.le_trans HL6.out (Kd.R_base r7 k hk))))
          obtain ⟨A6, c6, e7⟩ := Kd.R_slice r7
          subst e7
          clear r7 hb7 HS6 HX6 HA6 HR6 HL6 HCLN
          have HS6 := HS7
          have HX6 := HX7
          have HA6 := HA7
          have HR6 := HR7
          clear HS7 HX7 HA7 HR7
          obtain ⟨s7, m7, f7⟩ := HS6.out.color (Kd.R_mono HR6.out (fun k hk => ⟨hk.1, hk.2.1⟩))
          have HS7 := Aside0.mk s7
          have HM7 := Aside0.mk m7
          have HF7 := Aside0.mk (f7 A6 c6 rfl)
          have HC7 := Aside0.mk (Kd.R_reads' HR6.out).2.1
          have HU7 := Aside0.mk (show paint U (.slice A6 cl.length c6) 4 g6 = 5 from (if_neg (fun e => (HR6.out.1 g6 e).2.2 rfl)).trans HTU.out.2)
          obtain ⟨U7, hU7⟩ : ∃ U7, paint U (.slice A6 cl.length c6) 4 = U7 := ⟨_, rfl⟩
          have HP5 := Aside0.mk (show ∀ g, U g = 5 → paint U (.slice A6 cl.length c6) 4 g = 5 from fun g hg => (if_neg (fun e => by have := (HR6.out.1 g e).2.1; rw [hg] at this; cases this)).trans hg)
          have HUA := Aside0.mk (show ∀ k, some k ≠ (Value.slice A6 cl.length c6).ownBlock → paint U (.slice A6 cl.length c6) 4 k = U k from fun k hk => if_neg (fun e => hk e.symm))
          rw [hU7] at HS7 HM7 HF7 HU7 HP5 HUA
          clear s7 m7 f7 hU7
          by_cases hl : 4096 ≤ Z.log.length
          · go_wp2_with fail
            refine (sol_put.full HS7.out (.slice A6 cl.length c6) hl).mono ?_
            rintro e' w9 ⟨rfl, rfl⟩
            obtain ⟨⟨b0, z0⟩, ⟨b1, z1⟩, ⟨b2_, z2⟩, ⟨b3, z3⟩, b4⟩ := put4_facts HX6.out (.bool false) (.slice none 0 0) (.slice none 0 0) (.int .i64 0)
            have HB4 := Aside0.mk b4
            have HO4 := Aside0.mk (put4_below HS7.out.old (Nat.le_trans HW0.out (show _ ≤ g6 from HG0.out)) (.bool false) (.slice none 0 0) (.slice none 0 0) (.int .i64 0))
            have HLL := Aside0.mk hl
            clear b4 hl
            go_wp2
            refine bodyPost_ret (results_cell3 rfl _ _ g6 _ _ _ _ rfl HB4.out hu33 rfl (by kernel_rfl)) rfl ?_
            exact ⟨HO4.out, HQ5.out _ (fun g hg hne => (put4_far _ _ _ _ g hne).trans (HS7.out.five g (HP5.out g hg)).2), fun _ => rfl, fun h => absurd HLL.out (by omega)⟩
          · have HCALL := Aside0.mk (sol_put.calls HS7.out A6 c6 cl HC7.out HF7.out (Nat.lt_of_not_le hl))
            have HLN := Aside0.mk hl
            clear hl
            go_wp2_with fail
            refine HCALL.out.mono ?_
            rintro e' w9 ⟨rfl, hp⟩
            obtain ⟨T9, U9, p9, q9, s9, m9, k9⟩ := hp
            have HS9 := Aside0.mk s9
            have HX9 := Aside0.mk ((m9.same g6 (blk_lt HX6.out) HTU.out.1 (by rw [HU7.out]; decide)).trans HX6.out)
            have HA9 := Aside0.mk (Kd.R_mono (Kd.R_step (Kd.R_bound HA6.out) (fun k hk hl => m9.same k hl hk.1.1.1 (by rw [HUA.out k hk.1.2, hk.1.1.2.1]; decide))) (fun k hk => ⟨hk.1.1, (k9 k hk.2.2.1).trans (HUA.out k hk.1.2)⟩) (ok' := fun k => (T k = (0, 0) ∧ U k = 0 ∧ k ≠ g6) ∧ U9 k = U k))
            have H59 := Aside0.mk (show ∀ g, U g = 5 → w9.heap[g]? = q.five g from fun g hg => (by
              obtain ⟨f1, f2⟩ := HS7.out.five g (HP5.out g hg)
              have hl : g < _ := Nat.lt_of_not_le fun hle => by have := HS7.out.fresh g hle; rw [HP5.out g hg] at this; cases this
              exact (m9.same g hl f1 (by rw [HP5.out g hg]; decide)).trans f2))
            have HU95 := Aside0.mk (show ∀ g, U g = 5 → U9 g = 5 from fun g hg => (by
              have hl : g < _ := Nat.lt_of_not_le fun hle => by have := HS7.out.fresh g hle; rw [HP5.out g hg] at this; cases this
              exact (m9.ukn g hl (by rw [HP5.out g hg]; decide)).trans (HP5.out g hg)))
            have HU9 := Aside0.mk ((m9.ukn g6 (blk_lt HX6.out) (by rw [HU7.out]; decide)).trans HU7.out)
            clear s9 m9 k9 HCALL HS7 HM7 HF7 HX6 HA6 HUA
            go_upto_region 16 with fail
            obtain ⟨AL, kL, eL⟩ := Kd.N_slice HS9.out.log
            have d4 := HS9.out.cells.2.2.2.2.1
            have d5 := HS9.out.cells.2.2.2.2.2.1
            have hNL := HS9.out.log
            rw [eL] at d4 hNL
            have HNL := Aside0.mk hNL
            have dx := HX9.out
            obtain ⟨nL, hnL⟩ : ∃ nL, (Z.log ++ [(⟨false, cl⟩ : S64)]).length = nL := ⟨_, rfl⟩
            obtain ⟨st, hst⟩ : ∃ st, Z.steps = st := ⟨_, rfl⟩
            simp only [hnL, hst] at d4 d5 HNL
            have HST := Aside0.mk hst
            have e0 := blk_cell dx 0
            have e1 := blk_cell dx 1
            have e2 := blk_cell dx 2
            have e3 := blk_cell dx 3
            have y0 := blk_frozen dx 0
            have y1 := blk_frozen dx 1
            have y2 := blk_frozen dx 2
            have y3 := blk_frozen dx 3
            clear eL hNL hnL hst
            refine start_ (n := 13) (S := fun w' => w'.cell? ⟨S, 4, none⟩ = some (.slice AL nL kL) ∧ w'.cell? ⟨S, 5, none⟩ = some (.int .i64 st) ∧ w'.heap[g6]? = some (.cells #[.bool false, .slice none 0 0, .slice none 0 0, .int .i64 0] 33 (0, 0))) (ds := [10]) #[false, false, false, false, false, false, false, false, false, false, false, false, false] (by kernel_rfl) rfl rfl ⟨d4, d5, dx⟩ (fun hHeld => ?_)
            refine pure_ (i := 0) (N := some 54) (v := ?_) (a' := ?_) #[true, false, false, false, false, false, false, false, false, false, false, false, false] rfl rfl (by kernel_rfl) (fun _ _ _ h => h) (Or.inl ⟨by rfl, ?_⟩) ?_ ?_
            rotate_left
            · intro w'
              go_simp
              with_reducible rfl
            rotate_left
            · simp only [Act.put, List.setIfInBounds_toArray, List.set_cons_zero, List.set_cons_succ, i64_w, i32_w]
              rfl
            refine pure_ (i := 1) (N := some 55) (v := ?_) (a' := ?_) #[true, true, false, false, false, false, false, false, false, false, false, false, false] rfl rfl (by kernel_rfl) (fun _ _ _ h => h) (Or.inl ⟨by rfl, ?_⟩) ?_ ?_
            rotate_left
            · intro w'
              go_simp
              with_reducible rfl
            rotate_left
            · simp only [Act.put, List.setIfInBounds_toArray, List.set_cons_zero, List.set_cons_succ, i64_w, i32_w]
              rfl
            refine pure_ (i := 2) (N := some 56) (v := ?_) (a' := ?_) #[true, true, true, false, false, false, false, false, false, false, false, false, false] rfl rfl (by kernel_rfl) (fun _ _ _ h => h) (Or.inl ⟨by rfl, ?_⟩) ?_ ?_
            rotate_left
            · intro w'
              go_simp
              with_reducible rfl
            rotate_left
            · simp only [Act.put, List.setIfInBounds_toArray, List.set_cons_zero, List.set_cons_succ, i64_w, i32_w]
              rfl
            refine pure_ (i := 4) (N := some 58) (v := ?_) (a' := ?_) #[true, true, true, false, true, false, false, false, false, false, false, false, false] rfl rfl (by kernel_rfl) (fun _ _ _ h => h) (Or.inl ⟨by rfl, ?_⟩) ?_ ?_
            rotate_left
            · intro w'
              go_simp
              with_reducible rfl
            rotate_left
            · simp only [Act.put, List.setIfInBounds_toArray, List.set_cons_zero, List.set_cons_succ, i64_w, i32_w]
              rfl
            refine pure_ (i := 5) (N := some 59) (v := ?_) (a' := ?_) #[true, true, true, false, true, true, false, false, false, false, false, false, false] rfl rfl (by kernel_rfl) (fun _ _ _ h => h) (Or.inl ⟨by rfl, ?_⟩) ?_ ?_
            rotate_left
            · intro w'
              go_simp
              with_reducible rfl
            rotate_left
            · simp only [Act.put, List.setIfInBounds_toArray, List.set_cons_zero, List.set_cons_succ, i64_w, i32_w]
              rfl
            refine pure_ (i := 6) (N := some 60) (v := ?_) (a' := ?_) #[true, true, true, false, true, true, true, false, false, false, false, false, false] rfl rfl (by kernel_rfl) (fun _ _ _ h => h) (Or.inl ⟨by rfl, ?_⟩) ?_ ?_
            rotate_left
            · intro w'
              go_simp
              with_reducible rfl
            rotate_left
            · simp only [Act.put, List.setIfInBounds_toArray, List.set_cons_zero, List.set_cons_succ, i64_w, i32_w]
              rfl
            refine pure_ (i := 9) (N := some 63) (v := ?_) (a' := ?_) #[true, true, true, false, true, true, true, false, false, true, false, false, false] rfl rfl (by kernel_rfl) (fun _ _ _ h => h) (Or.inl ⟨by rfl, ?_⟩) ?_ ?_
            rotate_left
            · intro w'
              go_simp
              with_reducible rfl
            rotate_left
            · simp only [Act.put, List.setIfInBounds_toArray, List.set_cons_zero, List.set_cons_succ, i64_w, i32_w]
              rfl
            refine take_ (i := 3) (N := some 57) (v := ?_) (a' := ?_) #[true, true, true, true, true, true, true, false, false, true, false, false, false] rfl rfl (by kernel_rfl) (fun _ _ _ h => h) (Or.inl ⟨by rfl, ?_⟩) hHeld ?_ ?_
            rotate_left
            · rintro w' ⟨s0, s1, s2⟩
              go_simp
              with_reducible rfl
            rotate_left
            · simp only [Act.put, List.setIfInBounds_toArray, List.set_cons_zero, List.set_cons_succ, i64_w, i32_w]
              rfl
            refine take_ (i := 7) (N := some 61) (v := ?_) (a' := ?_) #[true, true, true, true, true, true, true, true, false, true, false, false, false] rfl rfl (by kernel_rfl) (fun _ _ _ h => h) (Or.inl ⟨by rfl, ?_⟩) hHeld ?_ ?_
            rotate_left
            · rintro w' ⟨s0, s1, s2⟩
              go_simp
              with_reducible rfl
            rotate_left
            · simp only [Act.put, List.setIfInBounds_toArray, List.set_cons_zero, List.set_cons_succ, i64_w, i32_w]
              rfl
            refine pure_ (i := 8) (N := some 62) (v := ?_) (a' := ?_) #[true, true, true, true, true, true, true, true, true, true, false, false, false] rfl rfl (by kernel_rfl) (fun _ _ _ h => h) (Or.inl ⟨by rfl, ?_⟩) ?_ ?_
            rotate_left
            · intro w'
              go_simp
              with_reducible rfl
            rotate_left
            · simp only [Act.put, List.setIfInBounds_toArray, List.set_cons_zero, List.set_cons_succ, i64_w, i32_w]
              rfl
            refine last_ (i := 10) (N := none) #[true, true, true, true, true, true, true, true, true, true, true, false, false] rfl rfl (by kernel_rfl) (by decide) (fun K hK => ?_)
            obtain ⟨⟨b0, z0⟩, ⟨b1, z1⟩, ⟨b2_, z2⟩, ⟨b3, z3⟩, b4⟩ := put4_facts hHeld.2.2 (.bool false) (.slice none 0 0) (.slice AL nL kL) (.int .i64 st)
            have HB4 := Aside0.mk b4
            clear b4 b0 b1 b2_ b3 z0 z1 z2 z3
            refine skip_ (w1 := ?_) (by rfl) rfl ?_ ?_
            rotate_left
            · go_simp
              rfl
            refine hK.out _ _ ?_
            clear hK K
            refine pure_ (i := 11) (N := some 7) (v := ?_) (a' := ?_) #[true, true, true, true, true, true, true, true, true, true, true, true, false] rfl rfl (by kernel_rfl) (fun _ _ _ h => h) (Or.inl ⟨by rfl, ?_⟩) ?_ ?_
            rotate_left
            · intro w'
              go_simp
              with_reducible rfl
            rotate_left
            · simp only [Act.put, List.setIfInBounds_toArray, List.set_cons_zero, List.set_cons_succ, i64_w, i32_w]
              rfl
            refine pure_ (i := 12) (N := some 8) (v := ?_) (a' := ?_) #[true, true, true, true, true, true, true, true, true, true, true, true, true] rfl rfl (by kernel_rfl) (fun _ _ _ h => h) (Or.inl ⟨by rfl, ?_⟩) ?_ ?_
            rotate_left
            · intro w'
              go_simp
              with_reducible rfl
            rotate_left
            · simp only [Act.put, List.setIfInBounds_toArray, List.set_cons_zero, List.set_cons_succ, i64_w, i32_w]
              rfl
            refine done_ (by kernel_rfl) ?_
            have HB5 := Aside0.mk (put4_facts dx (.bool false) (.slice none 0 0) (.slice AL nL kL) (.int .i64 st)).2.2.2.2
            have hfar := put4_far (w := w9) (g := g6) (.bool false) (.slice none 0 0) (.slice AL nL kL) (.int .i64 st)
            have HO5 := Aside0.mk (put4_below HS9.out.old (Nat.le_trans HW0.out HG0.out) (.bool false) (.slice none 0 0) (.slice AL nL kL) (.int .i64 st))
            have hge : w0.heap.size ≤ g6 := Nat.le_trans HW0.out HG0.out
            have HN5 := Aside0.mk (Kd.N_step HNL.out (fun k hk _ => hfar k (fun e => by
              subst e
              rcases hk with hk | hk
              · rw [HU9.out] at hk; cases hk.2
              · rw [HU9.out] at hk; cases hk.2)))
            have HA5 := Aside0.mk (Kd.R_step HA9.out (fun k hk _ => hfar k hk.1.2.2))
            have HCOR := Aside0.mk (show Z.core (Sol.blame2 bl l) = co by rw [HB2.out, HCO.out])
            clear hfar hge d4 d5 dx e0 e1 e2 e3 y0 y1 y2 y3
            go_wp2
            refine bodyPost_ret (results_cell3 rfl _ _ g6 _ _ _ _ rfl HB5.out hu33 rfl (by kernel_rfl)) rfl ?_
            have hdr : Below (put4 w9 g6 (.bool false) (.slice none 0 0) (.slice AL nL kL) (.int .i64 st)).heap.size (put4 w9 g6 (.bool false) (.slice none 0 0) (.slice AL nL kL) (.int .i64 st)) (put4 w9 g6 (.bool false) (.slice none 0 0) (.slice AL nL kL) (.int .i64 st)).drew := below_drew (Below.refl _ _)
            exact ⟨below_step HO5.out hdr, HQ5.out _ (fun g hg hne => (put4_far (.bool false) (.slice none 0 0) (.slice AL nL kL) (.int .i64 st) g hne).trans (H59.out g hg)), fun h => absurd h HLN.out, fun _ => ⟨_, _, by rw [HST.out]; rfl, Kd.N_mono (Kd.N_below HN5.out hdr) (fun k hk => ⟨⟨Nat.le_of_not_lt fun hlt => (by
              have h0 := (HS9.out.t0 k hlt).2
              rcases hk with hk | hk
              · rw [h0] at hk; cases hk.2
              · rw [h0] at hk; cases hk.2), fun e => (by
              have e9 := HU95.out k (H5U.out k e)
              rcases hk with hk | hk
              · rw [e9] at hk; cases hk.2
              · rw [e9] at hk; cases hk.2)⟩, fun e => (by
              have h9 := HA9.out.1 k e.symm
              have h0 := h9.2.trans h9.1.2.1
              rcases hk with hk | hk
              · rw [h0] at hk; cases hk.2
              · rw [h0] at hk; cases hk.2)⟩), by rw [HCOR.out]; exact Kd.R_mono (Kd.R_lower (Kd.R_mono (Kd.R_bound (Kd.R_below HA5.out hdr)) (fun k hk => (⟨hk.2.1, fun e => by have h9 := hk.1.1.2.1; rw [H5U.out k e] at h9; cases h9⟩ : okU w0 _ k))) (Nat.zero_le _)) (fun _ hk => hk)⟩⟩
  · have q1 : (l != 0) = true := by simpa using hl
    have HB2 := Aside0.mk (show Sol.blame2 bl l = bl ++ [l] by unfold Sol.blame2; rw [if_pos hl])
    clear hl
    have HLN := Aside0.mk (show (bl.length + 1) * 8 ≤ 140737488355328 by have := HBL.out; omega)
    go_upto_region 3 with (at_builtin; refine Kd.R_append (Kd.int .i64) (w0 := w0) (W := W1) w0.heap.size rfl (.tmp 16) (.tmp 18) 25 3 (.int .i64 0) 8 rfl Try.underlying25 (by kernel_rfl) rfl (by decide) (by decide) (.slice A bl.length c) bl l [.int .i64 l] (fun k => T k = (0, 0) ∧ U k = 0 ∧ k ≠ g6) (fun _ => False) rfl rfl rfl (fun _ h => h.elim) (fun k hk => HG6.out k (by have := HS1Z.out; omega)) HR1.out HS1.out.old HS1.out.old.size HLN.out ?_; intro v2 w2 r2 hb2 hg2 hat2)
    have HS2 := Aside0.mk (HS1.out.grown hg2 (fun k e => ⟨(HR1.out.1 k e).1, (HR1.out.1 k e).2.1, Kd.R_base HR1.out k e⟩))
    have HX2 := Aside0.mk (blk_grown HX1.out hg2 (fun e => (HR1.out.1 g6 e.symm).2.2 rfl))
    have HR2 := Aside0.mk r2
    obtain ⟨A2, c2, e2⟩ := Kd.R_slice r2
    subst e2
    have HLW := Aside0.mk (show g6 + 1 ≤ w2.heap.size by have := hg2.size; rw [HS1Z.out] at this; exact this)
    clear r2 hb2 hg2 hat2 HS1 HX1 HR1
    obtain ⟨W2, hW2⟩ : ∃ W2, w2 = W2 := ⟨_, rfl⟩
    obtain ⟨b2, hb2⟩ : ∃ b2, bl ++ [l] = b2 := ⟨_, rfl⟩
    rw [hb2] at HB2 HR2 ⊢
    rw [hW2] at HS2 HX2 HR2 HLW ⊢
    clear hW2 hb2
    rw [HB2.out] at HCON HOP
    have c3 := HS2.out.cells.2.2.2.1
    have hbig := (Kd.F_now HS2.out.asm).2.1
    obtain ⟨aA, haA⟩ : ∃ a, q.aA = a := ⟨_, rfl⟩
    obtain ⟨cA, hcA⟩ : ∃ a, q.cA = a := ⟨_, rfl⟩
    obtain ⟨l1, hl1⟩ : ∃ a, Z.asm = a := ⟨_, rfl⟩
    rw [haA, hcA, hl1] at c3
    rw [hl1] at hbig HCON HASM
    have HASMR := Aside0.mk (show ∀ W, SolIn w0 W S B T U Z p q → Kd.C (Kd.int .i64) W aA l1.length l1 from fun W h => by have := Kd.F_now h.asm; rw [haA, hl1] at this; exact this)
    have HCORE := Aside0.mk (show Z.core b2 = l1.filter fun x => decide (x ∈ b2) by unfold Sol.core; rw [hl1])
    clear haA hcA hl1
    go_wp2
    go_loopg [9, 25] l1.length (fun gg v9 v25 wr => ∃ (j : Nat), v25 = .int .i64 (j : Int) ∧ Aside0 (j + gg = l1.length) ∧ Aside0 (SolIn w0 wr S B T U Z p q) ∧ Aside0 (g6 + 1 ≤ wr.heap.size) ∧ Aside0 (wr.heap[g6]? = some (.cells #[.bool false, .slice none 0 0, .slice none 0 0, .int .i64 0] 33 (0, 0))) ∧ Aside0 (Kd.R (Kd.int .i64) 3 wr w0.heap.size (fun k => (T k = (0, 0) ∧ U k = 0 ∧ k ≠ g6) ∧ some k ≠ v9.ownBlock) (.slice A2 b2.length c2) b2) ∧ Aside0 (Kd.R (Kd.int .i64) 3 wr w0.heap.size (fun k => T k = (0, 0) ∧ U k = 0 ∧ k ≠ g6) v9 ((l1.take j).filter fun x => decide (x ∈ b2))))
    case atStart => exact ⟨0, rfl, ⟨by simp⟩, HS2, HLW, HX2, ⟨Kd.R_mono HR2.out (fun k hk => ⟨hk, by simp [Value.ownBlock]⟩)⟩, ⟨Kd.R_nil _ _ _ _ _⟩⟩
    case round =>
      clear HS2 HX2 HR2 HLW c3
      obtain ⟨j, rfl, hg, HSr, HLr, HXr, HRr, HAr⟩ := hrel
      by_cases hlt : j < l1.length
      · obtain ⟨ad2, e2, x2⟩ := Kd.at_int (HASMR.out _ HSr.out) (j : Int) (by omega) (by omega)
        cases e2
        obtain ⟨y, hy⟩ : ∃ y, l1[j] = y := ⟨_, rfl⟩
        have hrd : rd l1 (j : Int) = y := by simp [rd, hlt, hy]
        rw [hrd] at x2
        simp only [Int.toNat_natCast] at x2
        have Q0 : ((0 : Int) ≤ (j : Int)) = True := eq_true (by omega)
        have Q1 : ((j : Int) < (l1.length : Int)) = True := eq_true (by omega)
        have Q2 : (j < l1.length) = True := eq_true hlt
        have hd2 : decide ((j : Int) < (l1.length : Int)) = true := decide_eq_true (by omega)
        have HTK := Aside0.mk (show (l1.take (j + 1)).filter (fun x => decide (x ∈ b2)) = (l1.take j).filter (fun x => decide (x ∈ b2)) ++ [y].filter (fun x => decide (x ∈ b2)) by rw [List.take_add_one, List.getElem?_eq_getElem hlt, hy, List.filter_append]; rfl)
        have HLN2 := Aside0.mk (show (((l1.take j).filter (fun x => decide (x ∈ b2))).length + 1) * 8 ≤ 140737488355328 by
          have := List.length_filter_le (fun x => decide (x ∈ b2)) (l1.take j)
          have h2 := HASM.out
          rw [List.length_take] at this
          omega)
        have HCO := Aside0.mk (slices_Contains_int_int.calls k A2 c2 b2 y (decide (y ∈ b2)) wr (Kd.R_reads' HRr.out).2.2 (Kd.R_reads' HRr.out).2.1 (HCON.out y (by rw [← hy]; exact List.getElem_mem hlt)))
        clear hy hrd
        go_wp2_with fail
        refine HCO.out.mono ?_
        rintro e' w5 ⟨rfl, ⟨nd, rfl⟩⟩
        have hbd : Below wr.heap.size wr (wr.drewN nd) := pw_below_drewN (Below.refl _ _) nd
        have HS5 := Aside0.mk (HSr.out.below hbd)
        have HX5 := Aside0.mk (blk_below HXr.out hbd)
        have HR5 := Aside0.mk (Kd.R_below HRr.out hbd)
        have HA5 := Aside0.mk (Kd.R_below HAr.out hbd)
        have HL5 := Aside0.mk (show g6 + 1 ≤ (wr.drewN nd).heap.size from HLr.out)
        obtain ⟨w5, hw5⟩ : ∃ w5, wr.drewN nd = w5 := ⟨_, rfl⟩
        rw [hw5] at HS5 HX5 HR5 HA5 HL5 ⊢
        clear hbd HSr HXr HRr HAr HLr HCO x2 hw5
        by_cases hm : y ∈ b2
        · have dm : decide (y ∈ b2) = true := decide_eq_true hm
          rw [dm]
          have HTK2 := Aside0.mk (show (l1.take (j + 1)).filter (fun x => decide (x ∈ b2)) = (l1.take j).filter (fun x => decide (x ∈ b2)) ++ [y] by rw [HTK.out, List.filter_cons_of_pos (p := fun x => decide (x ∈ b2)) dm, List.filter_nil])
          clear dm hm HTK
          obtain ⟨acc, hacc⟩ : ∃ acc, (l1.take j).filter (fun x => decide (x ∈ b2)) = acc := ⟨_, rfl⟩
          rw [hacc] at HA5 HTK2 HLN2
          clear hacc
          go_wp2_with (at_builtin; refine Kd.R_append (Kd.int .i64) (w0 := w0) (W := w5) w0.heap.size rfl (.tmp 32) (.tmp 34) 25 3 (.int .i64 0) 8 rfl Try.underlying25 (by kernel_rfl) rfl (by decide) (by decide) u9 acc y [.int .i64 y] (fun k => T k = (0, 0) ∧ U k = 0 ∧ k ≠ g6) (fun _ => False) rfl rfl rfl (fun _ h => h.elim) (fun k hk => HG6.out k (by have := HL5.out; omega)) HA5.out HS5.out.old HS5.out.old.size HLN2.out ?_; intro v8 w8 r8 hb8 hg8 hat8)
          have HS8 := Aside0.mk (HS5.out.grown hg8 (fun k e => ⟨(HA5.out.1 k e).1, (HA5.out.1 k e).2.1, Kd.R_base HA5.out k e⟩))
          have HX8 := Aside0.mk (blk_grown HX5.out hg8 (fun e => (HA5.out.1 g6 e.symm).2.2 rfl))
          have HA8 := Aside0.mk r8
          have HR8 := Aside0.mk (Kd.R_after HR5.out hg8 hat8)
          have HL8 := Aside0.mk (Nat.le_trans HL5.out hg8.size)
          rw [← HTK2.out] at HA8
          clear r8 hb8 hg8 hat8 HA5 HR5 HX5 HS5 HL5
          go_wp2
          go_roundg (l1.length - (j + 1))
          case measure => have := hg.out; omega
          case rel => exact ⟨j + 1, by simp, ⟨by have := hg.out; omega⟩, HS8, HL8, HX8, HR8, HA8⟩
        · have dm : decide (y ∈ b2) = false := decide_eq_false hm
          rw [dm]
          have HA8 := HA5
          rw [show (l1.take j).filter (fun x => decide (x ∈ b2)) = (l1.take (j + 1)).filter (fun x => decide (x ∈ b2)) by rw [HTK.out, List.filter_cons_of_neg (p := fun x => decide (x ∈ b2)) (by rw [dm]; decide), List.filter_nil, List.append_nil]] at HA8
          clear dm hm HTK HA5
          go_wp2
          go_roundg (l1.length - (j + 1))
          case measure => have := hg.out; omega
          case rel => exact ⟨j + 1, by simp, ⟨by have := hg.out; omega⟩, HS5, HL5, HX5, HR5, HA8⟩
      · have hd2 : decide ((j : Int) < (l1.length : Int)) = false := decide_eq_false (by omega)
        have Q2 : (j < l1.length) = False := eq_false hlt
        have ha := HAr.out
        rw [List.take_of_length_le (by omega), ← HCORE.out] at ha
        obtain ⟨co, hco⟩ : ∃ co, Z.core b2 = co := ⟨_, rfl⟩
        rw [hco] at ha HOP
        have HCO := Aside0.mk hco
        obtain ⟨A9, c9, e9⟩ := Kd.R_slice ha
        subst e9
        have HA9 := Aside0.mk ha
        have HOPC := Aside0.mk (solve_opposites.calls k A9 c9 co cl0 _ (Kd.R_reads' ha).2.2 (Kd.R_reads' ha).2.1 HOP.out)
        clear ha HAr HRr hco
        go_wp2_with fail
        refine HOPC.out.mono ?_
        rintro e' w6 ⟨v6, rfl, r6, hb6⟩
        have hlr := HLr.out
        have HS6 := Aside0.mk (HSr.out.below hb6)
        have HX6 := Aside0.mk (blk_below HXr.out hb6)
        have HA6 := Aside0.mk (Kd.R_mono (Kd.R_below (Kd.R_bound HA9.out) hb6) (fun k hk => ⟨hk.1, fun e => by have h1 := Kd.R_base r6 k e.symm; have h2 := hk.2.2.1; omega⟩) (ok' := fun k => (T k = (0, 0) ∧ U k = 0 ∧ k ≠ g6) ∧ some k ≠ v6.ownBlock))
        have HL6 := Aside0.mk (Nat.le_trans HLr.out hb6.size)
        have HR6 := Aside0.mk (show Kd.R (Kd.int .i64) 3 w6 w0.heap.size (fun k => T k = (0, 0) ∧ U k = 0 ∧ k ≠ g6) v6 cl0 from Kd.R_of_own (Kd.own_of_R (Kd.R_lower r6 HSr.out.old.size)) (fun k hk => HG6.out k (by have := Kd.R_base r6 k hk; omega)))
        obtain ⟨A6, c6, e6⟩ := Kd.R_slice r6
        subst e6
        clear r6 hb6 hlr HSr HXr HLr HA9 HOPC
        by_cases h64 : cl0.length ≤ 64
        · have d64 : decide ((64 : Int) < (cl0.length : Int)) = false := decide_eq_false (by omega)
          have e64 : (64 < cl0.length) = False := eq_false (by omega)
          have hcl := HCL.out.1 h64
          subst hcl
          clear HCL h64
          obtain ⟨s7, m7, f7⟩ := HS6.out.color (Kd.R_mono HR6.out (fun k hk => ⟨hk.1, hk.2.1⟩))
          have HS7 := Aside0.mk s7
          have HM7 := Aside0.mk m7
          have HF7 := Aside0.mk (f7 A6 c6 rfl)
          have HC7 := Aside0.mk (Kd.R_reads' HR6.out).2.1
          have HU7 := Aside0.mk (show paint U (.slice A6 cl.length c6) 4 g6 = 5 from (if_neg (fun e => (HR6.out.1 g6 e).2.2 rfl)).trans HTU.out.2)
          obtain ⟨U7, hU7⟩ : ∃ U7, paint U (.slice A6 cl.length c6) 4 = U7 := ⟨_, rfl⟩
          have HP5 := Aside0.mk (show ∀ g, U g = 5 → paint U (.slice A6 cl.length c6) 4 g = 5 from fun g hg => (if_neg (fun e => by have := (HR6.out.1 g e).2.1; rw [hg] at this; cases this)).trans hg)
          have HUA := Aside0.mk (show ∀ k, some k ≠ (Value.slice A6 cl.length c6).ownBlock → paint U (.slice A6 cl.length c6) 4 k = U k from fun k hk => if_neg (fun e => hk e.symm))
          rw [hU7] at HS7 HM7 HF7 HU7 HP5 HUA
          clear s7 m7 f7 hU7
          by_cases hl : 4096 ≤ Z.log.length
          · go_wp2_with fail
            refine (sol_put.full HS7.out (.slice A6 cl.length c6) hl).mono ?_
            rintro e' w9 ⟨rfl, rfl⟩
            obtain ⟨⟨b0, z0⟩, ⟨b1, z1⟩, ⟨b2_, z2⟩, ⟨b3, z3⟩, b4⟩ := put4_facts HX6.out (.bool false) (.slice none 0 0) (.slice none 0 0) (.int .i64 0)
            have HB4 := Aside0.mk b4
            have HO4 := Aside0.mk (put4_below HS7.out.old (Nat.le_trans HW0.out (show _ ≤ g6 from HG0.out)) (.bool false) (.slice none 0 0) (.slice none 0 0) (.int .i64 0))
            have HLL := Aside0.mk hl
            clear b4 hl
            go_wp2
            refine bodyPost_ret (results_cell3 rfl _ _ g6 _ _ _ _ rfl HB4.out hu33 rfl (by kernel_rfl)) rfl ?_
            exact ⟨HO4.out, HQ5.out _ (fun g hg hne => (put4_far _ _ _ _ g hne).trans (HS7.out.five g (HP5.out g hg)).2), fun _ => rfl, fun h => absurd HLL.out (by omega)⟩
          · have HCALL := Aside0.mk (sol_put.calls HS7.out A6 c6 cl HC7.out HF7.out (Nat.lt_of_not_le hl))
            have HLN := Aside0.mk hl
            clear hl
            go_wp2_with fail
            refine HCALL.out.mono ?_
            rintro e' w9 ⟨rfl, hp⟩
            obtain ⟨T9, U9, p9, q9, s9, m9, k9⟩ := hp
            have HS9 := Aside0.mk s9
            have HX9 := Aside0.mk ((m9.same g6 (blk_lt HX6.out) HTU.out.1 (by rw [HU7.out]; decide)).trans HX6.out)
            have HA9 := Aside0.mk (Kd.R_mono (Kd.R_step (Kd.R_bound HA6.out) (fun k hk hl => m9.same k hl hk.1.1.1 (by rw [HUA.out k hk.1.2, hk.1.1.2.1]; decide))) (fun k hk => ⟨hk.1.1, (k9 k hk.2.2.1).trans (HUA.out k hk.1.2)⟩) (ok' := fun k => (T k = (0, 0) ∧ U k = 0 ∧ k ≠ g6) ∧ U9 k = U k))
            have H59 := Aside0.mk (show ∀ g, U g = 5 → w9.heap[g]? = q.five g from fun g hg => (by
              obtain ⟨f1, f2⟩ := HS7.out.five g (HP5.out g hg)
              have hl : g < _ := Nat.lt_of_not_le fun hle => by have := HS7.out.fresh g hle; rw [HP5.out g hg] at this; cases this
              exact (m9.same g hl f1 (by rw [HP5.out g hg]; decide)).trans f2))
            have HU95 := Aside0.mk (show ∀ g, U g = 5 → U9 g = 5 from fun g hg => (by
              have hl : g < _ := Nat.lt_of_not_le fun hle => by have := HS7.out.fresh g hle; rw [HP5.out g hg] at this; cases this
              exact (m9.ukn g hl (by rw [HP5.out g hg]; decide)).trans (HP5.out g hg)))
            have HU9 := Aside0.mk ((m9.ukn g6 (blk_lt HX6.out) (by rw [HU7.out]; decide)).trans HU7.out)
            clear s9 m9 k9 HCALL HS7 HM7 HF7 HX6 HA6 HUA
            go_upto_region 16 with fail
            obtain ⟨AL, kL, eL⟩ := Kd.N_slice HS9.out.log
            have d4 := HS9.out.cells.2.2.2.2.1
            have d5 := HS9.out.cells.2.2.2.2.2.1
            have hNL := HS9.out.log
            rw [eL] at d4 hNL
            have HNL := Aside0.mk hNL
            have dx := HX9.out
            obtain ⟨nL, hnL⟩ : ∃ nL, (Z.log ++ [(⟨false, cl⟩ : S64)]).length = nL := ⟨_, rfl⟩
            obtain ⟨st, hst⟩ : ∃ st, Z.steps = st := ⟨_, rfl⟩
            simp only [hnL, hst] at d4 d5 HNL
            have HST := Aside0.mk hst
            have e0 := blk_cell dx 0
            have e1 := blk_cell dx 1
            have e2 := blk_cell dx 2
            have e3 := blk_cell dx 3
            have y0 := blk_frozen dx 0
            have y1 := blk_frozen dx 1
            have y2 := blk_frozen dx 2
            have y3 := blk_frozen dx 3
            clear eL hNL hnL hst
            refine start_ (n := 13) (S := fun w' => w'.cell? ⟨S, 4, none⟩ = some (.slice AL nL kL) ∧ w'.cell? ⟨S, 5, none⟩ = some (.int .i64 st) ∧ w'.heap[g6]? = some (.cells #[.bool false, .slice none 0 0, .slice none 0 0, .int .i64 0] 33 (0, 0))) (ds := [10]) #[false, false, false, false, false, false, false, false, false, false, false, false, false] (by kernel_rfl) rfl rfl ⟨d4, d5, dx⟩ (fun hHeld => ?_)
            refine pure_ (i := 0) (N := some 54) (v := ?_) (a' := ?_) #[true, false, false, false, false, false, false, false, false, false, false, false, false] rfl rfl (by kernel_rfl) (fun _ _ _ h => h) (Or.inl ⟨by rfl, ?_⟩) ?_ ?_
            rotate_left
            · intro w'
              go_simp
              with_reducible rfl
            rotate_left
            · simp only [Act.put, List.setIfInBounds_toArray, List.set_cons_zero, List.set_cons_succ, i64_w, i32_w]
              rfl
            refine pure_ (i := 1) (N := some 55) (v := ?_) (a' := ?_) #[true, true, false, false, false, false, false, false, false, false, false, false, false] rfl rfl (by kernel_rfl) (fun _ _ _ h => h) (Or.inl ⟨by rfl, ?_⟩) ?_ ?_
            rotate_left
            · intro w'
              go_simp
              with_reducible rfl
            rotate_left
            · simp only [Act.put, List.setIfInBounds_toArray, List.set_cons_zero, List.set_cons_succ, i64_w, i32_w]
              rfl
            refine pure_ (i := 2) (N := some 56) (v := ?_) (a' := ?_) #[true, true, true, false, false, false, false, false, false, false, false, false, false] rfl rfl (by kernel_rfl) (fun _ _ _ h => h) (Or.inl ⟨by rfl, ?_⟩) ?_ ?_
            rotate_left
            · intro w'
              go_simp
              with_reducible rfl
            rotate_left
            · simp only [Act.put, List.setIfInBounds_toArray, List.set_cons_zero, List.set_cons_succ, i64_w, i32_w]
              rfl
            refine pure_ (i := 4) (N := some 58) (v := ?_) (a' := ?_) #[true, true, true, false, true, false, false, false, false, false, false, false, false] rfl rfl (by kernel_rfl) (fun _ _ _ h => h) (Or.inl ⟨by rfl, ?_⟩) ?_ ?_
            rotate_left
            · intro w'
              go_simp
              with_reducible rfl
            rotate_left
            · simp only [Act.put, List.setIfInBounds_toArray, List.set_cons_zero, List.set_cons_succ, i64_w, i32_w]
              rfl
            refine pure_ (i := 5) (N := some 59) (v := ?_) (a' := ?_) #[true, true, true, false, true, true, false, false, false, false, false, false, false] rfl rfl (by kernel_rfl) (fun _ _ _ h => h) (Or.inl ⟨by rfl, ?_⟩) ?_ ?_
            rotate_left
            · intro w'
              go_simp
              with_reducible rfl
            rotate_left
            · simp only [Act.put, List.setIfInBounds_toArray, List.set_cons_zero, List.set_cons_succ, i64_w, i32_w]
              rfl
            refine pure_ (i := 6) (N := some 60) (v := ?_) (a' := ?_) #[true, true, true, false, true, true, true, false, false, false, false, false, false] rfl rfl (by kernel_rfl) (fun _ _ _ h => h) (Or.inl ⟨by rfl, ?_⟩) ?_ ?_
            rotate_left
            · intro w'
              go_simp
              with_reducible rfl
            rotate_left
            · simp only [Act.put, List.setIfInBounds_toArray, List.set_cons_zero, List.set_cons_succ, i64_w, i32_w]
              rfl
            refine pure_ (i := 9) (N := some 63) (v := ?_) (a' := ?_) #[true, true, true, false, true, true, true, false, false, true, false, false, false] rfl rfl (by kernel_rfl) (fun _ _ _ h => h) (Or.inl ⟨by rfl, ?_⟩) ?_ ?_
            rotate_left
            · intro w'
              go_simp
              with_reducible rfl
            rotate_left
            · simp only [Act.put, List.setIfInBounds_toArray, List.set_cons_zero, List.set_cons_succ, i64_w, i32_w]
              rfl
            refine take_ (i := 3) (N := some 57) (v := ?_) (a' := ?_) #[true, true, true, true, true, true, true, false, false, true, false, false, false] rfl rfl (by kernel_rfl) (fun _ _ _ h => h) (Or.inl ⟨by rfl, ?_⟩) hHeld ?_ ?_
            rotate_left
            · rintro w' ⟨s0, s1, s2⟩
              go_simp
              with_reducible rfl
            rotate_left
            · simp only [Act.put, List.setIfInBounds_toArray, List.set_cons_zero, List.set_cons_succ, i64_w, i32_w]
              rfl
            refine take_ (i := 7) (N := some 61) (v := ?_) (a' := ?_) #[true, true, true, true, true, true, true, true, false, true, false, false, false] rfl rfl (by kernel_rfl) (fun _ _ _ h => h) (Or.inl ⟨by rfl, ?_⟩) hHeld ?_ ?_
            rotate_left
            · rintro w' ⟨s0, s1, s2⟩
              go_simp
              with_reducible rfl
            rotate_left
            · simp only [Act.put, List.setIfInBounds_toArray, List.set_cons_zero, List.set_cons_succ, i64_w, i32_w]
              rfl
            refine pure_ (i := 8) (N := some 62) (v := ?_) (a' := ?_) #[true, true, true, true, true, true, true, true, true, true, false, false, false] rfl rfl (by kernel_rfl) (fun _ _ _ h => h) (Or.inl ⟨by rfl, ?_⟩) ?_ ?_
            rotate_left
            · intro w'
              go_simp
              with_reducible rfl
            rotate_left
            · simp only [Act.put, List.setIfInBounds_toArray, List.set_cons_zero, List.set_cons_succ, i64_w, i32_w]
              rfl
            refine last_ (i := 10) (N := none) #[true, true, true, true, true, true, true, true, true, true, true, false, false] rfl rfl (by kernel_rfl) (by decide) (fun K hK => ?_)
            obtain ⟨⟨b0, z0⟩, ⟨b1, z1⟩, ⟨b2_, z2⟩, ⟨b3, z3⟩, b4⟩ := put4_facts hHeld.2.2 (.bool false) (.slice none 0 0) (.slice AL nL kL) (.int .i64 st)
            have HB4 := Aside0.mk b4
            clear b4 b0 b1 b2_ b3 z0 z1 z2 z3
            refine skip_ (w1 := ?_) (by rfl) rfl ?_ ?_
            rotate_left
            · go_simp
              rfl
            refine hK.out _ _ ?_
            clear hK K
            refine pure_ (i := 11) (N := some 7) (v := ?_) (a' := ?_) #[true, true, true, true, true, true, true, true, true, true, true, true, false] rfl rfl (by kernel_rfl) (fun _ _ _ h => h) (Or.inl ⟨by rfl, ?_⟩) ?_ ?_
            rotate_left
            · intro w'
              go_simp
              with_reducible rfl
            rotate_left
            · simp only [Act.put, List.setIfInBounds_toArray, List.set_cons_zero, List.set_cons_succ, i64_w, i32_w]
              rfl
            refine pure_ (i := 12) (N := some 8) (v := ?_) (a' := ?_) #[true, true, true, true, true, true, true, true, true, true, true, true, true] rfl rfl (by kernel_rfl) (fun _ _ _ h => h) (Or.inl ⟨by rfl, ?_⟩) ?_ ?_
            rotate_left
            · intro w'
              go_simp
              with_reducible rfl
            rotate_left
            · simp only [Act.put, List.setIfInBounds_toArray, List.set_cons_zero, List.set_cons_succ, i64_w, i32_w]
              rfl
            refine done_ (by kernel_rfl) ?_
            have HB5 := Aside0.mk (put4_facts dx (.bool false) (.slice none 0 0) (.slice AL nL kL) (.int .i64 st)).2.2.2.2
            have hfar := put4_far (w := w9) (g := g6) (.bool false) (.slice none 0 0) (.slice AL nL kL) (.int .i64 st)
            have HO5 := Aside0.mk (put4_below HS9.out.old (Nat.le_trans HW0.out HG0.out) (.bool false) (.slice none 0 0) (.slice AL nL kL) (.int .i64 st))
            have hge : w0.heap.size ≤ g6 := Nat.le_trans HW0.out HG0.out
            have HN5 := Aside0.mk (Kd.N_step HNL.out (fun k hk _ => hfar k (fun e => by
              subst e
              rcases hk with hk | hk
              · rw [HU9.out] at hk; cases hk.2
              · rw [HU9.out] at hk; cases hk.2)))
            have HA5 := Aside0.mk (Kd.R_step HA9.out (fun k hk _ => hfar k hk.1.2.2))
            have HCOR := Aside0.mk (show Z.core (Sol.blame2 bl l) = co by rw [HB2.out, HCO.out])
            clear hfar hge d4 d5 dx e0 e1 e2 e3 y0 y1 y2 y3
            go_wp2
            refine bodyPost_ret (results_cell3 rfl _ _ g6 _ _ _ _ rfl HB5.out hu33 rfl (by kernel_rfl)) rfl ?_
            have hdr : Below (put4 w9 g6 (.bool false) (.slice none 0 0) (.slice AL nL kL) (.int .i64 st)).heap.size (put4 w9 g6 (.bool false) (.slice none 0 0) (.slice AL nL kL) (.int .i64 st)) (put4 w9 g6 (.bool false) (.slice none 0 0) (.slice AL nL kL) (.int .i64 st)).drew := below_drew (Below.refl _ _)
            exact ⟨below_step HO5.out hdr, HQ5.out _ (fun g hg hne => (put4_far (.bool false) (.slice none 0 0) (.slice AL nL kL) (.int .i64 st) g hne).trans (H59.out g hg)), fun h => absurd h HLN.out, fun _ => ⟨_, _, by rw [HST.out]; rfl, Kd.N_mono (Kd.N_below HN5.out hdr) (fun k hk => ⟨⟨Nat.le_of_not_lt fun hlt => (by
              have h0 := (HS9.out.t0 k hlt).2
              rcases hk with hk | hk
              · rw [h0] at hk; cases hk.2
              · rw [h0] at hk; cases hk.2), fun e => (by
              have e9 := HU95.out k (H5U.out k e)
              rcases hk with hk | hk
              · rw [e9] at hk; cases hk.2
              · rw [e9] at hk; cases hk.2)⟩, fun e => (by
              have h9 := HA9.out.1 k e.symm
              have h0 := h9.2.trans h9.1.2.1
              rcases hk with hk | hk
              · rw [h0] at hk; cases hk.2
              · rw [h0] at hk; cases hk.2)⟩), by rw [HCOR.out]; exact Kd.R_mono (Kd.R_lower (Kd.R_mono (Kd.R_bound (Kd.R_below HA5.out hdr)) (fun k hk => (⟨hk.2.1, fun e => by have h9 := hk.1.1.2.1; rw [H5U.out k e] at h9; cases h9⟩ : okU w0 _ k))) (Nat.zero_le _)) (fun _ hk => hk)⟩⟩
        · have d64 : decide ((64 : Int) < (cl0.length : Int)) = true := decide_eq_true (by omega)
          have e64 : (64 < cl0.length) = True := eq_true (by omega)
          obtain ⟨bb, hcl⟩ := HCL.out.2 (by omega)
          have HCLN := Aside0.mk (lit_Clean.calls A6 c6 cl0 cl bb _ (Kd.R_reads' HR6.out).2.2 (Kd.R_reads' HR6.out).2.1 hcl)
          clear hcl HCL h64
          go_wp2_with fail
          refine HCLN.out.mono ?_
          rintro e' w7 ⟨v7, rfl, r7, hb7⟩
          have HS7 := Aside0.mk (HS6.out.below hb7)
          have HX7 := Aside0.mk (blk_below HX6.out hb7)
          have HA7 := Aside0.mk (Kd.R_mono (Kd.R_below (Kd.R_bound HA6.out) hb7) (fun k hk => ⟨hk.1.1, fun e => by have h1 := Kd.R_base r7 k e.symm; have h2 := hk.2.2.1; omega⟩) (ok' := fun k => (T k = (0, 0) ∧ U k = 0 ∧ k ≠ g6) ∧ some k ≠ v7.ownBlock))
          have HR7 := Aside0.mk (show Kd.R (Kd.int .i64) 3 w7 w0.heap.size (fun k => T k = (0, 0) ∧ U k = 0 ∧ k ≠ g6) v7 cl from Kd.R_of_own (Kd.own_of_R (Kd.R_lower r7 HS6.out.old.size)) (fun k hk => HG6.out k (Nat.le_trans HL6.out (Kd.R_base r7 k hk))))
          obtain ⟨A6, c6, e7⟩ := Kd.R_slice r7
          subst e7
          clear r7 hb7 HS6 HX6 HA6 HR6 HL6 HCLN
          have HS6 := HS7
          have HX6 := HX7
          have HA6 := HA7
          have HR6 := HR7
          clear HS7 HX7 HA7 HR7
          obtain ⟨s7, m7, f7⟩ := HS6.out.color (Kd.R_mono HR6.out (fun k hk => ⟨hk.1, hk.2.1⟩))
          have HS7 := Aside0.mk s7
          have HM7 := Aside0.mk m7
          have HF7 := Aside0.mk (f7 A6 c6 rfl)
          have HC7 := Aside0.mk (Kd.R_reads' HR6.out).2.1
          have HU7 := Aside0.mk (show paint U (.slice A6 cl.length c6) 4 g6 = 5 from (if_neg (fun e => (HR6.out.1 g6 e).2.2 rfl)).trans HTU.out.2)
          obtain ⟨U7, hU7⟩ : ∃ U7, paint U (.slice A6 cl.length c6) 4 = U7 := ⟨_, rfl⟩
          have HP5 := Aside0.mk (show ∀ g, U g = 5 → paint U (.slice A6 cl.length c6) 4 g = 5 from fun g hg => (if_neg (fun e => by have := (HR6.out.1 g e).2.1; rw [hg] at this; cases this)).trans hg)
          have HUA := Aside0.mk (show ∀ k, some k ≠ (Value.slice A6 cl.length c6).ownBlock → paint U (.slice A6 cl.length c6) 4 k = U k from fun k hk => if_neg (fun e => hk e.symm))
          rw [hU7] at HS7 HM7 HF7 HU7 HP5 HUA
          clear s7 m7 f7 hU7
          by_cases hl : 4096 ≤ Z.log.length
          · go_wp2_with fail
            refine (sol_put.full HS7.out (.slice A6 cl.length c6) hl).mono ?_
            rintro e' w9 ⟨rfl, rfl⟩
            obtain ⟨⟨b0, z0⟩, ⟨b1, z1⟩, ⟨b2_, z2⟩, ⟨b3, z3⟩, b4⟩ := put4_facts HX6.out (.bool false) (.slice none 0 0) (.slice none 0 0) (.int .i64 0)
            have HB4 := Aside0.mk b4
            have HO4 := Aside0.mk (put4_below HS7.out.old (Nat.le_trans HW0.out (show _ ≤ g6 from HG0.out)) (.bool false) (.slice none 0 0) (.slice none 0 0) (.int .i64 0))
            have HLL := Aside0.mk hl
            clear b4 hl
            go_wp2
            refine bodyPost_ret (results_cell3 rfl _ _ g6 _ _ _ _ rfl HB4.out hu33 rfl (by kernel_rfl)) rfl ?_
            exact ⟨HO4.out, HQ5.out _ (fun g hg hne => (put4_far _ _ _ _ g hne).trans (HS7.out.five g (HP5.out g hg)).2), fun _ => rfl, fun h => absurd HLL.out (by omega)⟩
          · have HCALL := Aside0.mk (sol_put.calls HS7.out A6 c6 cl HC7.out HF7.out (Nat.lt_of_not_le hl))
            have HLN := Aside0.mk hl
            clear hl
            go_wp2_with fail
            refine HCALL.out.mono ?_
            rintro e' w9 ⟨rfl, hp⟩
            obtain ⟨T9, U9, p9, q9, s9, m9, k9⟩ := hp
            have HS9 := Aside0.mk s9
            have HX9 := Aside0.mk ((m9.same g6 (blk_lt HX6.out) HTU.out.1 (by rw [HU7.out]; decide)).trans HX6.out)
            have HA9 := Aside0.mk (Kd.R_mono (Kd.R_step (Kd.R_bound HA6.out) (fun k hk hl => m9.same k hl hk.1.1.1 (by rw [HUA.out k hk.1.2, hk.1.1.2.1]; decide))) (fun k hk => ⟨hk.1.1, (k9 k hk.2.2.1).trans (HUA.out k hk.1.2)⟩) (ok' := fun k => (T k = (0, 0) ∧ U k = 0 ∧ k ≠ g6) ∧ U9 k = U k))
            have H59 := Aside0.mk (show ∀ g, U g = 5 → w9.heap[g]? = q.five g from fun g hg => (by
              obtain ⟨f1, f2⟩ := HS7.out.five g (HP5.out g hg)
              have hl : g < _ := Nat.lt_of_not_le fun hle => by have := HS7.out.fresh g hle; rw [HP5.out g hg] at this; cases this
              exact (m9.same g hl f1 (by rw [HP5.out g hg]; decide)).trans f2))
            have HU95 := Aside0.mk (show ∀ g, U g = 5 → U9 g = 5 from fun g hg => (by
              have hl : g < _ := Nat.lt_of_not_le fun hle => by have := HS7.out.fresh g hle; rw [HP5.out g hg] at this; cases this
              exact (m9.ukn g hl (by rw [HP5.out g hg]; decide)).trans (HP5.out g hg)))
            have HU9 := Aside0.mk ((m9.ukn g6 (blk_lt HX6.out) (by rw [HU7.out]; decide)).trans HU7.out)
            clear s9 m9 k9 HCALL HS7 HM7 HF7 HX6 HA6 HUA
            go_upto_region 16 with fail
            obtain ⟨AL, kL, eL⟩ := Kd.N_slice HS9.out.log
            have d4 := HS9.out.cells.2.2.2.2.1
            have d5 := HS9.out.cells.2.2.2.2.2.1
            have hNL := HS9.out.log
            rw [eL] at d4 hNL
            have HNL := Aside0.mk hNL
            have dx := HX9.out
            obtain ⟨nL, hnL⟩ : ∃ nL, (Z.log ++ [(⟨false, cl⟩ : S64)]).length = nL := ⟨_, rfl⟩
            obtain ⟨st, hst⟩ : ∃ st, Z.steps = st := ⟨_, rfl⟩
            simp only [hnL, hst] at d4 d5 HNL
            have HST := Aside0.mk hst
            have e0 := blk_cell dx 0
            have e1 := blk_cell dx 1
            have e2 := blk_cell dx 2
            have e3 := blk_cell dx 3
            have y0 := blk_frozen dx 0
            have y1 := blk_frozen dx 1
            have y2 := blk_frozen dx 2
            have y3 := blk_frozen dx 3
            clear eL hNL hnL hst
            refine start_ (n := 13) (S := fun w' => w'.cell? ⟨S, 4, none⟩ = some (.slice AL nL kL) ∧ w'.cell? ⟨S, 5, none⟩ = some (.int .i64 st) ∧ w'.heap[g6]? = some (.cells #[.bool false, .slice none 0 0, .slice none 0 0, .int .i64 0] 33 (0, 0))) (ds := [10]) #[false, false, false, false, false, false, false, false, false, false, false, false, false] (by kernel_rfl) rfl rfl ⟨d4, d5, dx⟩ (fun hHeld => ?_)
            refine pure_ (i := 0) (N := some 54) (v := ?_) (a' := ?_) #[true, false, false, false, false, false, false, false, false, false, false, false, false] rfl rfl (by kernel_rfl) (fun _ _ _ h => h) (Or.inl ⟨by rfl, ?_⟩) ?_ ?_
            rotate_left
            · intro w'
              go_simp
              with_reducible rfl
            rotate_left
            · simp only [Act.put, List.setIfInBounds_toArray, List.set_cons_zero, List.set_cons_succ, i64_w, i32_w]
              rfl
            refine pure_ (i := 1) (N := some 55) (v := ?_) (a' := ?_) #[true, true, false, false, false, false, false, false, false, false, false, false, false] rfl rfl (by kernel_rfl) (fun _ _ _ h => h) (Or.inl ⟨by rfl, ?_⟩) ?_ ?_
            rotate_left
            · intro w'
              go_simp
              with_reducible rfl
            rotate_left
            · simp only [Act.put, List.setIfInBounds_toArray, List.set_cons_zero, List.set_cons_succ, i64_w, i32_w]
              rfl
            refine pure_ (i := 2) (N := some 56) (v := ?_) (a' := ?_) #[true, true, true, false, false, false, false, false, false, false, false, false, false] rfl rfl (by kernel_rfl) (fun _ _ _ h => h) (Or.inl ⟨by rfl, ?_⟩) ?_ ?_
            rotate_left
            · intro w'
              go_simp
              with_reducible rfl
            rotate_left
            · simp only [Act.put, List.setIfInBounds_toArray, List.set_cons_zero, List.set_cons_succ, i64_w, i32_w]
              rfl
            refine pure_ (i := 4) (N := some 58) (v := ?_) (a' := ?_) #[true, true, true, false, true, false, false, false, false, false, false, false, false] rfl rfl (by kernel_rfl) (fun _ _ _ h => h) (Or.inl ⟨by rfl, ?_⟩) ?_ ?_
            rotate_left
            · intro w'
              go_simp
              with_reducible rfl
            rotate_left
            · simp only [Act.put, List.setIfInBounds_toArray, List.set_cons_zero, List.set_cons_succ, i64_w, i32_w]
              rfl
            refine pure_ (i := 5) (N := some 59) (v := ?_) (a' := ?_) #[true, true, true, false, true, true, false, false, false, false, false, false, false] rfl rfl (by kernel_rfl) (fun _ _ _ h => h) (Or.inl ⟨by rfl, ?_⟩) ?_ ?_
            rotate_left
            · intro w'
              go_simp
              with_reducible rfl
            rotate_left
            · simp only [Act.put, List.setIfInBounds_toArray, List.set_cons_zero, List.set_cons_succ, i64_w, i32_w]
              rfl
            refine pure_ (i := 6) (N := some 60) (v := ?_) (a' := ?_) #[true, true, true, false, true, true, true, false, false, false, false, false, false] rfl rfl (by kernel_rfl) (fun _ _ _ h => h) (Or.inl ⟨by rfl, ?_⟩) ?_ ?_
            rotate_left
            · intro w'
              go_simp
              with_reducible rfl
            rotate_left
            · simp only [Act.put, List.setIfInBounds_toArray, List.set_cons_zero, List.set_cons_succ, i64_w, i32_w]
              rfl
            refine pure_ (i := 9) (N := some 63) (v := ?_) (a' := ?_) #[true, true, true, false, true, true, true, false, false, true, false, false, false] rfl rfl (by kernel_rfl) (fun _ _ _ h => h) (Or.inl ⟨by rfl, ?_⟩) ?_ ?_
            rotate_left
            · intro w'
              go_simp
              with_reducible rfl
            rotate_left
            · simp only [Act.put, List.setIfInBounds_toArray, List.set_cons_zero, List.set_cons_succ, i64_w, i32_w]
              rfl
            refine take_ (i := 3) (N := some 57) (v := ?_) (a' := ?_) #[true, true, true, true, true, true, true, false, false, true, false, false, false] rfl rfl (by kernel_rfl) (fun _ _ _ h => h) (Or.inl ⟨by rfl, ?_⟩) hHeld ?_ ?_
            rotate_left
            · rintro w' ⟨s0, s1, s2⟩
              go_simp
              with_reducible rfl
            rotate_left
            · simp only [Act.put, List.setIfInBounds_toArray, List.set_cons_zero, List.set_cons_succ, i64_w, i32_w]
              rfl
            refine take_ (i := 7) (N := some 61) (v := ?_) (a' := ?_) #[true, true, true, true, true, true, true, true, false, true, false, false, false] rfl rfl (by kernel_rfl) (fun _ _ _ h => h) (Or.inl ⟨by rfl, ?_⟩) hHeld ?_ ?_
            rotate_left
            · rintro w' ⟨s0, s1, s2⟩
              go_simp
              with_reducible rfl
            rotate_left
            · simp only [Act.put, List.setIfInBounds_toArray, List.set_cons_zero, List.set_cons_succ, i64_w, i32_w]
              rfl
            refine pure_ (i := 8) (N := some 62) (v := ?_) (a' := ?_) #[true, true, true, true, true, true, true, true, true, true, false, false, false] rfl rfl (by kernel_rfl) (fun _ _ _ h => h) (Or.inl ⟨by rfl, ?_⟩) ?_ ?_
            rotate_left
            · intro w'
              go_simp
              with_reducible rfl
            rotate_left
            · simp only [Act.put, List.setIfInBounds_toArray, List.set_cons_zero, List.set_cons_succ, i64_w, i32_w]
              rfl
            refine last_ (i := 10) (N := none) #[true, true, true, true, true, true, true, true, true, true, true, false, false] rfl rfl (by kernel_rfl) (by decide) (fun K hK => ?_)
            obtain ⟨⟨b0, z0⟩, ⟨b1, z1⟩, ⟨b2_, z2⟩, ⟨b3, z3⟩, b4⟩ := put4_facts hHeld.2.2 (.bool false) (.slice none 0 0) (.slice AL nL kL) (.int .i64 st)
            have HB4 := Aside0.mk b4
            clear b4 b0 b1 b2_ b3 z0 z1 z2 z3
            refine skip_ (w1 := ?_) (by rfl) rfl ?_ ?_
            rotate_left
            · go_simp
              rfl
            refine hK.out _ _ ?_
            clear hK K
            refine pure_ (i := 11) (N := some 7) (v := ?_) (a' := ?_) #[true, true, true, true, true, true, true, true, true, true, true, true, false] rfl rfl (by kernel_rfl) (fun _ _ _ h => h) (Or.inl ⟨by rfl, ?_⟩) ?_ ?_
            rotate_left
            · intro w'
              go_simp
              with_reducible rfl
            rotate_left
            · simp only [Act.put, List.setIfInBounds_toArray, List.set_cons_zero, List.set_cons_succ, i64_w, i32_w]
              rfl
            refine pure_ (i := 12) (N := some 8) (v := ?_) (a' := ?_) #[true, true, true, true, true, true, true, true, true, true, true, true, true] rfl rfl (by kernel_rfl) (fun _ _ _ h => h) (Or.inl ⟨by rfl, ?_⟩) ?_ ?_
            rotate_left
            · intro w'
              go_simp
              with_reducible rfl
            rotate_left
            · simp only [Act.put, List.setIfInBounds_toArray, List.set_cons_zero, List.set_cons_succ, i64_w, i32_w]
              rfl
            refine done_ (by kernel_rfl) ?_
            have HB5 := Aside0.mk (put4_facts dx (.bool false) (.slice none 0 0) (.slice AL nL kL) (.int .i64 st)).2.2.2.2
            have hfar := put4_far (w := w9) (g := g6) (.bool false) (.slice none 0 0) (.slice AL nL kL) (.int .i64 st)
            have HO5 := Aside0.mk (put4_below HS9.out.old (Nat.le_trans HW0.out HG0.out) (.bool false) (.slice none 0 0) (.slice AL nL kL) (.int .i64 st))
            have hge : w0.heap.size ≤ g6 := Nat.le_trans HW0.out HG0.out
            have HN5 := Aside0.mk (Kd.N_step HNL.out (fun k hk _ => hfar k (fun e => by
              subst e
              rcases hk with hk | hk
              · rw [HU9.out] at hk; cases hk.2
              · rw [HU9.out] at hk; cases hk.2)))
            have HA5 := Aside0.mk (Kd.R_step HA9.out (fun k hk _ => hfar k hk.1.2.2))
            have HCOR := Aside0.mk (show Z.core (Sol.blame2 bl l) = co by rw [HB2.out, HCO.out])
            clear hfar hge d4 d5 dx e0 e1 e2 e3 y0 y1 y2 y3
            go_wp2
            refine bodyPost_ret (results_cell3 rfl _ _ g6 _ _ _ _ rfl HB5.out hu33 rfl (by kernel_rfl)) rfl ?_
            have hdr : Below (put4 w9 g6 (.bool false) (.slice none 0 0) (.slice AL nL kL) (.int .i64 st)).heap.size (put4 w9 g6 (.bool false) (.slice none 0 0) (.slice AL nL kL) (.int .i64 st)) (put4 w9 g6 (.bool false) (.slice none 0 0) (.slice AL nL kL) (.int .i64 st)).drew := below_drew (Below.refl _ _)
            exact ⟨below_step HO5.out hdr, HQ5.out _ (fun g hg hne => (put4_far (.bool false) (.slice none 0 0) (.slice AL nL kL) (.int .i64 st) g hne).trans (H59.out g hg)), fun h => absurd h HLN.out, fun _ => ⟨_, _, by rw [HST.out]; rfl, Kd.N_mono (Kd.N_below HN5.out hdr) (fun k hk => ⟨⟨Nat.le_of_not_lt fun hlt => (by
              have h0 := (HS9.out.t0 k hlt).2
              rcases hk with hk | hk
              · rw [h0] at hk; cases hk.2
              · rw [h0] at hk; cases hk.2), fun e => (by
              have e9 := HU95.out k (H5U.out k e)
              rcases hk with hk | hk
              · rw [e9] at hk; cases hk.2
              · rw [e9] at hk; cases hk.2)⟩, fun e => (by
              have h9 := HA9.out.1 k e.symm
              have h0 := h9.2.trans h9.1.2.1
              rcases hk with hk | hk
              · rw [h0] at hk; cases hk.2
              · rw [h0] at hk; cases hk.2)⟩), by rw [HCOR.out]; exact Kd.R_mono (Kd.R_lower (Kd.R_mono (Kd.R_bound (Kd.R_below HA5.out hdr)) (fun k hk => (⟨hk.2.1, fun e => by have h9 := hk.1.1.2.1; rw [H5U.out k e] at h9; cases h9⟩ : okU w0 _ k))) (Nat.zero_le _)) (fun _ hk => hk)⟩⟩
def endFound (Z : Sol) (cl bl : List Int) (l : Int) : Found := if 4096 ≤ Z.log.length then Found.bad 2 0 else ⟨0, false, [], Z.log ++ [⟨false, cl⟩], Z.steps, Z.core (Sol.blame2 bl l)⟩
def FoundIn (w0 w : World) (U : Col) (r : Found) (e : Ending) (w' : World) : Prop :=
  Below w0.heap.size w0 w' ∧ (∀ g, U g = 5 → w'.heap[g]? = w.heap[g]?) ∧ ∃ vV vL vN, e = .returned (.tuple #[.agg #[.bool r.sat, vV, vL, .int .i64 r.steps], vN, .int .i64 r.err]) ∧ Kd.R Kd.bool 4 w' 0 (okU w0 U) vV r.vals ∧ Kd.N k64 64 w' 0 (fun k => (okU w0 U k ∧ some k ≠ vN.ownBlock) ∧ some k ≠ vV.ownBlock) vL r.log ∧ Kd.R (Kd.int .i64) 3 w' 0 (okU w0 U) vN r.need
theorem sol_end.run (k : Nat) {w0 w : World} {S B : Nat} {T : Tag} {U : Col} {Z : Sol} {p : EngP} {q : SolP} (h0 : SolIn w0 w S B T U Z p q) (A : Option Addr) (c : Nat) (bl : List Int) (l : Int) (cl : List Int) (r : Found)
    (hr : Kd.R (Kd.int .i64) 3 w w0.heap.size (fun k => T k = (0, 0) ∧ U k = 0) (.slice A bl.length c) bl) (hf : Z.ends k bl l cl) (he : endFound Z cl bl l = r) :
    Calls Try.prog 43 #[.pointer (some ⟨S, 0, none⟩), .slice A bl.length c, .int .i64 l] w fun e w' => FoundIn w0 w U r e w' := by
  refine (sol_end.calls k h0 A c bl l cl hr hf).mono ?_
  rintro e w' ⟨h1, h2, h3, h4⟩
  refine ⟨h1, h2, ?_⟩
  subst he
  unfold endFound
  by_cases hl : 4096 ≤ Z.log.length
  · rw [if_pos hl]
    exact ⟨_, _, _, h3 hl, Kd.R_nil _ _ _ _ _, Kd.N_nil _ _ _ _ _, Kd.R_nil _ _ _ _ _⟩
  · rw [if_neg hl]
    obtain ⟨vL, vN, e1, e2, e3⟩ := h4 (by omega)
    exact ⟨_, _, _, e1, Kd.R_nil _ _ _ _ _, Kd.N_mono e2 (fun k hk => ⟨hk, by simp [Value.ownBlock]⟩), e3⟩


end Go.Proofs.Ytaibnbhgjnddnaa.P
