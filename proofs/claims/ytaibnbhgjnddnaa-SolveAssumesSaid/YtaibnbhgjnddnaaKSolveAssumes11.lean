import Derived.Lib.SliceRun
import Derived.Deep.DeepCutAuto
import Derived.Deep.RegionLaw
import Derived.Shelf.RegionOpenPlain
import Derived.StillTailTactics
import Derived.Shelf.Abstract
import Derived.Laws.EntriesVeiled
import Derived.WalkMore
import Derived.Test.YtaibnbhgjnddnaaKSolveAssumes1
import Derived.Test.YtaibnbhgjnddnaaKSolveAssumes9
import Derived.Test.YtaibnbhgjnddnaaKSolveAssumes2
import Derived.Test.YtaibnbhgjnddnaaKSolveAssumes10
import Derived.Test.YtaibnbhgjnddnaaKSolveAssumes4
import Derived.Test.YtaibnbhgjnddnaaKSolveAssumes3
import Derived.Test.YtaibnbhgjnddnaaKSolveAssumes5
namespace Go.Proofs.Ytaibnbhgjnddnaa.P
open Go.RowKit Go.Proofs.YtaibnbhgjnddnaaW.PrintWords Go.Proofs.YtaibnbhgjnddnaaW.PrintLast Go.Proofs.YtaibnbhgjnddnaaW.PrintMore
attribute [local go_sem] max2_int min2_int max_two min_two max_three min_three max_four min_four
set_option linter.unusedVariables false
set_option linter.unusedSimpArgs false
def cmpI (a b : Int) : Int := if a < b then -1 else if b < a then 1 else 0
set_option maxRecDepth 100000 in
theorem cmp_isNaN.calls (a : Int) (W : World) : Calls Try.prog 83 #[.int .i64 a] W fun e W' => e = .returned (.bool false) ∧ W' = W := by
  go_enter Try.func83, Try.ntmps83
  go_wp2
  all_goals (go_ret; exact ⟨by simp, rfl⟩)
set_option maxRecDepth 100000 in
theorem cmp_Compare.calls (a b : Int) (W : World) : Calls Try.prog 74 #[.int .i64 a, .int .i64 b] W fun e W' => e = .returned (.int .i64 (cmpI a b)) ∧ W' = W := by
  unfold cmpI
  by_cases h1 : a < b
  case pos =>
    rw [if_pos h1]
    go_enter Try.func74, Try.ntmps74
    go_wp2_with fail
    refine (cmp_isNaN.calls a W).mono ?_
    rintro e w' ⟨rfl, rfl⟩
    go_wp2_with fail
    refine (cmp_isNaN.calls b _).mono ?_
    rintro e w' ⟨rfl, rfl⟩
    go_wp2
    go_ret
    exact ⟨rfl, rfl⟩
  rw [if_neg h1]
  by_cases h2 : b < a
  case neg =>
    rw [if_neg h2]
    go_enter Try.func74, Try.ntmps74
    go_wp2_with fail
    refine (cmp_isNaN.calls a W).mono ?_
    rintro e w' ⟨rfl, rfl⟩
    go_wp2_with fail
    refine (cmp_isNaN.calls b _).mono ?_
    rintro e w' ⟨rfl, rfl⟩
    go_wp2
    go_ret
    exact ⟨rfl, rfl⟩
  rw [if_pos h2]
  go_enter Try.func74, Try.ntmps74
  go_wp2_with fail
  refine (cmp_isNaN.calls a W).mono ?_
  rintro e w' ⟨rfl, rfl⟩
  go_wp2_with fail
  refine (cmp_isNaN.calls b _).mono ?_
  rintro e w' ⟨rfl, rfl⟩
  go_wp2
  go_ret
  exact ⟨rfl, rfl⟩
set_option maxRecDepth 100000 in
theorem cmp_Or.calls (a b : Int) (g : Nat) (W : World) (h0 : W.cell? ⟨g, 0, none⟩ = some (.int .i64 a)) (h1 : W.cell? ⟨g, 1, none⟩ = some (.int .i64 b)) :
    Calls Try.prog 73 #[.slice (some ⟨g, 0, none⟩) 2 2] W fun e W' => e = .returned (.int .i64 (if a ≠ 0 then a else b)) ∧ W' = W := by
  go_enter Try.func73, Try.ntmps73
  go_wp2
  go_loopg [5, 8] 2 (fun gg _ v8 wr => ∃ j : Nat, v8 = .int .i64 (j : Int) ∧ wr = W ∧ Aside0 (j + gg = 2) ∧ Aside0 (0 < j → a = 0) ∧ Aside0 (1 < j → b = 0))
  case atStart => exact ⟨0, rfl, rfl, ⟨rfl⟩, ⟨fun h => by omega⟩, ⟨fun h => by omega⟩⟩
  case round =>
    obtain ⟨j, rfl, rfl, hg, ha, hb⟩ := hrel
    rcases Nat.lt_or_ge j 2 with hj | hj
    · rcases Nat.lt_or_ge j 1 with hj1 | hj1
      · obtain rfl : j = 0 := by omega
        by_cases hz : a = 0
        case neg =>
          have c1 : (a != 0) = true := by simpa using hz
          go_wp2
          go_ret
          exact ⟨rfl, rfl⟩
        subst hz
        go_wp2
        go_roundg 1
        case measure => have := hg.out; omega
        case rel => exact ⟨1, rfl, rfl, ⟨rfl⟩, ⟨by simp⟩, ⟨fun h => by omega⟩⟩
      obtain rfl : j = 1 := by omega
      have hz := ha.out (by omega)
      subst hz
      by_cases hy : b = 0
      case neg =>
        have c1 : (b != 0) = true := by simpa using hy
        go_wp2
        go_ret
        exact ⟨by simp, rfl⟩
      subst hy
      go_wp2
      go_roundg 0
      case measure => have := hg.out; omega
      case rel => exact ⟨2, rfl, rfl, ⟨rfl⟩, ⟨by simp⟩, ⟨by simp⟩⟩
    obtain rfl : j = 2 := by have := hg.out; omega
    have hz := ha.out (by omega)
    have hy := hb.out (by omega)
    subst hz hy
    go_wp2
    go_ret
    exact ⟨by simp, rfl⟩
theorem drewN_drewN (W : World) (m n : Nat) : (W.drewN m).drewN n = W.drewN (m + n) := by
  show ({ W with drawn := W.drawn + m + n } : World) = { W with drawn := W.drawn + (m + n) }
  rw [Nat.add_assoc]
open Go.Sort in
set_option maxRecDepth 100000 in
theorem lit_Clean_1.calls (a b : Int) (W : World) :
    Calls Try.prog 72 #[.int .i64 a, .int .i64 b] W fun e W' => e = .returned (.int .i64 (if cmpI (mx a (wrap64 (-a))) (mx b (wrap64 (-b))) ≠ 0 then cmpI (mx a (wrap64 (-a))) (mx b (wrap64 (-b))) else cmpI a b)) ∧ ∃ q os, W' = grow (W.drewN q) os := by
  have H1 := K0 (lit_variable.calls a (mx a (wrap64 (-a))) W rfl)
  obtain ⟨x, hx⟩ : ∃ x, mx a (wrap64 (-a)) = x := ⟨_, rfl⟩
  obtain ⟨y, hy⟩ : ∃ y, mx b (wrap64 (-b)) = y := ⟨_, rfl⟩
  rw [hx] at H1
  have HY := K0 hy
  rw [hx, hy]
  clear hx hy
  obtain ⟨p, hp⟩ : ∃ p, cmpI x y = p := ⟨_, rfl⟩
  obtain ⟨r, hr⟩ : ∃ r, cmpI a b = r := ⟨_, rfl⟩
  have HP := K0 hp; have HR := K0 hr
  rw [hp, hr]
  obtain ⟨u, hu⟩ : ∃ u, (if p ≠ 0 then p else r) = u := ⟨_, rfl⟩
  have HU := K0 hu
  rw [hu]
  clear hp hr hu
  go_enter Try.func72, Try.ntmps72
  go_wp2_with fail
  refine H1.out.mono ?_
  rintro e w1 ⟨rfl, ⟨⟨n1, rfl⟩⟩⟩
  go_wp2_with fail
  refine (lit_variable.calls b y (W.drewN n1) (by rw [← HY.out]; rfl)).mono ?_
  rintro e w2 ⟨rfl, ⟨⟨n2, rfl⟩⟩⟩
  go_wp2_with fail
  refine (cmp_Compare.calls x y _).mono ?_
  rintro e w3 ⟨rfl, rfl⟩
  rw [HP.out]
  go_wp2_with fail
  refine (cmp_Compare.calls a b _).mono ?_
  rintro e w4 ⟨rfl, rfl⟩
  rw [HR.out]
  go_wp2_with fail
  refine (cmp_Or.calls p r _ _ (by have := zql (blk_new (W.drewN (n1 + n2)) (.cells #[.int .i64 p, .int .i64 r] 3)) 0; exact this) (by have := zql (blk_new (W.drewN (n1 + n2)) (.cells #[.int .i64 p, .int .i64 r] 3)) 1; exact this)).mono ?_
  rintro e w5 ⟨he, rfl⟩
  rw [HU.out] at he
  subst he
  go_wp2
  go_ret
  exact ⟨rfl, n1 + n2, #[.cells #[.int .i64 p, .int .i64 r] 3], by rw [alloc_eq_grow]⟩
def cfL (a b : Int) : Int := if cmpI (mx a (wrap64 (-a))) (mx b (wrap64 (-b))) ≠ 0 then cmpI (mx a (wrap64 (-a))) (mx b (wrap64 (-b))) else cmpI a b
theorem cmpI_lt {a b : Int} : cmpI a b < 0 ↔ a < b := by unfold cmpI; split <;> (try split) <;> omega
theorem cmpI_ne {a b : Int} : cmpI a b ≠ 0 ↔ a ≠ b := by unfold cmpI; split <;> (try split) <;> omega
theorem cfL_lt {a b : Int} : cfL a b < 0 ↔ mx a (wrap64 (-a)) < mx b (wrap64 (-b)) ∨ (mx a (wrap64 (-a)) = mx b (wrap64 (-b)) ∧ a < b) := by
  unfold cfL
  by_cases h : mx a (wrap64 (-a)) = mx b (wrap64 (-b))
  case neg =>
    rw [if_pos (cmpI_ne.2 h), cmpI_lt]; omega
  rw [if_neg (by rw [cmpI_ne]; simpa using h), cmpI_lt]; omega
open Go.Sort Go.Proofs in
theorem cfL_swo : SWO (ltOf cfL) := by
  refine ⟨fun x => ?_, fun x y z h1 h2 => ?_, fun x y z h1 h2 => ?_⟩
  · exact zqu (by rw [cfL_lt]; omega)
  · have h1 := zqe h1
    have h2 := zqe h2
    exact zqt (by rw [cfL_lt] at h1 h2 ⊢; omega)
  have h1 := of_decide_eq_false h1
  have h2 := of_decide_eq_false h2
  exact zqu (by rw [cfL_lt] at h1 h2 ⊢; omega)
open Go.Sort Go.Lib Go.Proofs in
set_option maxRecDepth 100000 in
theorem slices_SortFunc_lits.calls (xs : List Int) (g n cap base : Nat) (ok : Nat → Prop) (W : World) (h : Kd.R (Kd.int .i64) 3 W base ok (.slice (some ⟨g, 0, none⟩) n cap) xs) (hlen : xs.length < 4611686018427387904) :
    Calls Try.prog 71 #[.slice (some ⟨g, 0, none⟩) n cap, .func (.func 72) #[] #[]] W fun e W' => e = .returned (.tuple #[]) ∧ Kd.R (Kd.int .i64) 3 W' base ok (.slice (some ⟨g, 0, none⟩) n cap) (xs.mergeSort fun x y => !(ltOf cfL) y x) ∧
      (∃ W1, (∃ q, W1 = W.drewN q) ∧ ∃ W2, W1.grownBy W2 (some g) ∧ Below W2.heap.size W2 W') := by
  obtain ⟨hn, hnc, hC⟩ := Kd.R_reads' h
  have hbig := hC.2.1
  have hblk : g < W.heap.size := by
    obtain ⟨inner, ho⟩ := Kd.R_own h
    exact own_lt ho g rfl
  have key := Try.slices_SortFunc_total (Value.int .i64) (fun _ => rfl) cfL cfL_swo 72 #[] g 0 cap xs.toArray W (enters_of Try.func72 (by kernel_rfl) rfl)
    (fun m os dk hs x y => calls_of_args (args := #[.int .i64 x, .int .i64 y]) rfl (lit_Clean_1.calls x y _)) (R_holds h) hblk (by simp; omega) (fun x y h1 h2 => by
      have h1 := of_decide_eq_false h1
      have h2 := of_decide_eq_false h2
      rw [cfL_lt] at h1 h2
      omega)
  have hsz : xs.toArray.size = n := by simp [hn]
  rw [hsz] at key
  refine key.mono ?_
  rintro e W' ⟨rfl, q, os, rfl⟩
  obtain ⟨hR, hg⟩ := R_rowPut (xs.mergeSort fun x y => !(ltOf cfL) y x) (by rw [List.length_mergeSort]) q h
  obtain ⟨hR2, hb2⟩ := R_grow os hR
  exact ⟨rfl, hR2, _, ⟨q, rfl⟩, _, hg, hb2⟩
open Go.Sort Go.Lib Go.Proofs in
theorem slices_Compact_R.calls (xs : List Int) (g n cap base : Nat) (ok : Nat → Prop) (W : World) (h : Kd.R (Kd.int .i64) 3 W base ok (.slice (some ⟨g, 0, none⟩) n cap) xs) (hle : (Lib.compact xs).length ≤ xs.length) :
    Calls Try.prog 75 #[.slice (some ⟨g, 0, none⟩) n cap] W fun e W' => e = .returned (.slice (some ⟨g, 0, none⟩) (Lib.compact xs).length cap) ∧ Kd.R (Kd.int .i64) 3 W' base ok (.slice (some ⟨g, 0, none⟩) (Lib.compact xs).length cap) (Lib.compact xs) ∧
      ∃ q, (W.drewN q).grownBy W' (some g) := by
  obtain ⟨hn, hnc, hC⟩ := Kd.R_reads' h
  have hbig := hC.2.1
  have key := Try.slices_Compact_int g 0 cap xs W (R_holds h) (by omega) (by omega)
  rw [← hn] at key
  refine key.mono ?_
  rintro e W' ⟨rfl, q, rfl⟩
  obtain ⟨hR, hg⟩ := R_rowPut (Lib.compact xs ++ List.replicate (n - (Lib.compact xs).length) 0) (by simp; omega) q h
  have hT := Kd.R_take hR (m := (Lib.compact xs).length) (by simp)
  rw [List.take_left'  rfl] at hT
  exact ⟨rfl, hT, q, hg⟩
def adjB : List Int → Bool
  | x :: y :: t => (y == wrap64 (-x)) || adjB (y :: t)
  | _ => false
def lit_Clean.out (c : List Int) : List Int := Lib.compact ((c.filter fun l => (lit_is.f l).getD false).mergeSort fun x y => !(Go.Proofs.ltOf cfL) y x)
def lit_Clean.f (l0 : List Int) : Option (List Int × Bool) := if l0.length < 17592186044416 ∧ (lit_Clean.out l0).length ≤ l0.length then some (lit_Clean.out l0, !adjB (lit_Clean.out l0)) else none
set_option maxRecDepth 100000 in
set_option maxHeartbeats 4000000 in
theorem lit_Clean.calls (A0 : Option Addr) (c0 : Nat) (l0 : List Int) (r1 : List Int) (r2 : Bool) (w : World) (hr0 : Kd.C (Kd.int .i64) w A0 l0.length l0) (hc0 : l0.length ≤ c0) (h : lit_Clean.f l0 = some (r1, r2)) :
    Calls Try.prog 51 #[.slice A0 l0.length c0] w fun e w' => ∃ v0_ : Value, e = .returned (.tuple #[v0_, .bool r2]) ∧ Kd.R (Kd.int .i64) 3 w' w.heap.size (fun _ => True) v0_ r1 ∧ Below w.heap.size w w' := by
  unfold lit_Clean.f at h
  by_cases hlen0 : ¬ (l0.length < 17592186044416 ∧ (lit_Clean.out l0).length ≤ l0.length)
  · rw [if_neg hlen0] at h; cases h
  obtain ⟨hlen, hle⟩ := Decidable.not_not.1 hlen0
  rw [if_pos ⟨hlen, hle⟩] at h
  simp only [Option.some.injEq, Prod.mk.injEq] at h
  obtain ⟨rfl, rfl⟩ := h
  have HR := K0 hr0
  obtain ⟨p, hp⟩ : ∃ p : Int → Bool, p = fun l => (lit_is.f l).getD false := ⟨_, rfl⟩
  have his : ∀ a, lit_is.f a = some (p a) := fun a => by
    rw [hp]
    unfold lit_is.f
    dsimp only
    split <;> rfl
  have HIS := K0 his; have HLN := K0 hlen; have HLE := K0 hle
  have HO := K0 (show lit_Clean.out l0 = Lib.compact ((l0.filter p).mergeSort fun x y => !(Go.Proofs.ltOf cfL) y x) from by rw [hp]; rfl)
  clear hr0 hlen0 hlen hle hp his
  go_enter Try.func51, Try.ntmps51
  go_wp2
  go_loopg [4, 6, 10] l0.length (fun gg v4 _ v10 wr => ∃ i : Nat, v10 = .int .i64 (i : Int) ∧ Aside0 (i + gg = l0.length) ∧ Aside0 (Kd.R (Kd.int .i64) 3 wr w.heap.size (fun _ => True) v4 ((l0.take i).filter p)) ∧ Aside0 (Below w.heap.size w wr))
  case atStart => exact ⟨0, rfl, ⟨by simp⟩, ⟨Kd.R_nil _ _ _ _ _⟩, ⟨zqw _ _⟩⟩
  case round =>
    obtain ⟨i, rfl, hg, hR, hB⟩ := hrel
    obtain ⟨A4, c4, rfl⟩ := Kd.R_slice hR.out
    by_cases hlt : i < l0.length
    case pos =>
      obtain ⟨ad, e1, x1⟩ := Kd.at_int (Kd.C_below HR.out hB.out) (i : Int) (by omega) (by omega)
      cases e1
      obtain ⟨y, hy⟩ : ∃ y, l0[i] = y := ⟨_, rfl⟩
      have hrd : rd l0 (i : Int) = y := by simp [rd, hlt, hy]
      rw [hrd] at x1
      simp only [Int.toNat_natCast] at x1
      have htk : (l0.take (i + 1)).filter p = (l0.take i).filter p ++ if p y = true then [y] else [] := by
        rw [List.take_add_one, List.getElem?_eq_getElem hlt, hy, List.filter_append]
        cases hpy : p y <;> simp [hpy]
      have HT := K0 htk
      have hfl : ((l0.take i).filter p).length ≤ i := Nat.le_trans (List.length_filter_le _ _) (by simp; omega)
      have P0 : ((0 : Int) ≤ (i : Int)) = True := eq_true (by omega)
      have P1 : ((i : Int) < (l0.length : Int)) = True := eq_true (by omega)
      have P2 : (i < l0.length) = True := eq_true hlt
      have hd : decide ((i : Int) < (l0.length : Int)) = true := zqt (by omega)
      have hln := HLN.out
      clear hrd htk hy
      cases hq : p y with
      | true =>
        have hcall := K0 (lit_is.calls y true wr (by rw [HIS.out, hq]))
        have hz := HT.out
        rw [if_pos hq] at hz
        have HZ := K0 hz; clear hz HT hq
        go_wp2_with fail
        refine hcall.out.mono ?_
        rintro e' w1 ⟨rfl, ⟨⟨n1, rfl⟩⟩⟩
        have hR1 := K0 (Kd.R_drewN hR.out n1)
        have hB1 := K0 (zqa hB.out n1)
        go_wp2_with (at_builtin; refine Kd.R_append (Kd.int .i64) (w0 := w) w.heap.size rfl (.tmp 16) (.tmp 18) 25 3 (.int .i64 0) 8 rfl Try.underlying25 (by kernel_rfl) rfl (by decide) (by decide) _ ((l0.take i).filter p) y [.int .i64 y] (fun _ => True) (fun _ => False) rfl rfl rfl (fun _ h => h.elim) (fun _ _ => trivial) hR1.out hB1.out hB1.out.size (by omega) ?_; intro v1 w3 r1 hb3 hg3 hat3)
        go_roundg (l0.length - (i + 1))
        case measure => have := hg.out; omega
        case rel => exact ⟨i + 1, by simp, ⟨by have := hg.out; omega⟩, ⟨by rw [HZ.out]; exact r1⟩, ⟨hb3⟩⟩
      | false =>
        have hcall := K0 (lit_is.calls y false wr (by rw [HIS.out, hq]))
        have hz := HT.out
        rw [if_neg (by rw [hq]; decide), List.append_nil] at hz
        have HZ := K0 hz; clear hz HT hq
        go_wp2_with fail
        refine hcall.out.mono ?_
        rintro e' w1 ⟨rfl, ⟨⟨n1, rfl⟩⟩⟩
        go_wp2
        go_roundg (l0.length - (i + 1))
        case measure => have := hg.out; omega
        case rel => exact ⟨i + 1, by simp, ⟨by have := hg.out; omega⟩, ⟨by rw [HZ.out]; exact Kd.R_drewN hR.out n1⟩, ⟨zqa hB.out n1⟩⟩
    have hd : decide ((i : Int) < (l0.length : Int)) = false := zqu (by omega)
    have P2 : (i < l0.length) = False := eq_false hlt
    have htake : (l0.take i).filter p = l0.filter p := by rw [List.take_of_length_le (by omega)]
    have hRf := hR.out
    rw [htake] at hRf ⊢
    obtain ⟨fl, hfl⟩ : ∃ fl, l0.filter p = fl := ⟨_, rfl⟩
    have hflen : fl.length ≤ l0.length := by rw [← hfl]; exact List.length_filter_le _ _
    have hout := HO.out
    rw [hfl] at hRf hout ⊢
    have HRF := K0 hRf; have HOUT := K0 hout
    have HB := hB
    have hln := HLN.out
    clear hRf hR htake hfl hout hB HO hg HIS
    have fin : ∀ (v : Value) (W : World), Kd.R (Kd.int .i64) 3 W w.heap.size (fun _ => True) v (lit_Clean.out l0) → True := fun _ _ _ => trivial
    by_cases hz : fl.length = 0
    case pos =>
      have hnil : fl = [] := List.length_eq_zero_iff.1 hz
      subst hnil
      have hce : Lib.compact (([] : List Int).mergeSort fun x y => !(Go.Proofs.ltOf cfL) y x) = [] := List.length_eq_zero_iff.1 (Nat.le_zero.1 (Nat.le_trans (Lib.compact_length_le _) (by simp)))
      have HO2 := K0 (HOUT.out.trans hce)
      clear HOUT hce HLE hz
      go_wp2_with fail
      refine (Try.slices_SortFunc_none (α := Int) A4 c4 _ wr).mono ?_
      rintro e' w1 ⟨rfl, rfl⟩
      go_wp2_with fail
      refine (Try.slices_Compact_int_empty A4 c4 _).mono ?_
      rintro e' w2 ⟨rfl, rfl⟩
      go_wp2
      go_loopg [7] 0 (fun gg v7 wr2 => v7 = .int .i64 1 ∧ wr2 = w2)
      case atStart => exact ⟨rfl, rfl⟩
      case round =>
        obtain ⟨rfl, rfl⟩ := hrel
        go_wp2
        go_ret2
        rw [HO2.out]
        exact ⟨_, rfl, HRF.out, HB.out⟩
    obtain ⟨inner, ho⟩ := Kd.R_own HRF.out
    obtain ⟨g, rfl⟩ : ∃ g, A4 = some ⟨g, 0, none⟩ := by
      rcases ho.2 with ⟨e1, e2⟩ | ⟨g, cap, cur, e1, _⟩
      · omega
      · injection e1 with e1 _ _; exact ⟨g, e1⟩
    have hgb : w.heap.size ≤ g := own_base ho g rfl
    clear ho
    have hle : (Lib.compact (fl.mergeSort fun x y => !(Go.Proofs.ltOf cfL) y x)).length ≤ (fl.mergeSort fun x y => !(Go.Proofs.ltOf cfL) y x).length := Lib.compact_length_le _
    have HLE2 := K0 hle; clear hle
    go_wp2_with fail
    refine (slices_SortFunc_lits.calls fl g fl.length c4 w.heap.size (fun _ => True) wr HRF.out (by omega)).mono ?_
    rintro e' w1 ⟨rfl, hR1, W1, ⟨q1, rfl⟩, W2, hg1, hb1⟩
    have HR1 := K0 hR1
    have hB2 : Below w.heap.size w W2 := (zqa HB.out q1).grown hg1 (zqa HB.out q1).size (fun k e => by cases e; exact hgb)
    have HB1 := K0 (hB2.trans (hb1.mono hB2.size))
    clear hR1 hB2 hg1 hb1
    go_wp2_with fail
    refine (slices_Compact_R.calls _ g fl.length c4 w.heap.size (fun _ => True) w1 HR1.out HLE2.out).mono ?_
    rintro e' w2 ⟨rfl, hR2, q2, hg2⟩
    rw [← HOUT.out] at hR2
    try rw [← HOUT.out]
    have HR2 := K0 hR2
    have HB2 := K0 ((zqa HB1.out q2).grown hg2 (zqa HB1.out q2).size (fun k e => by cases e; exact hgb))
    clear hR2 hg2 HR1 HRF HB1
    obtain ⟨out, hout⟩ : ∃ out, lit_Clean.out l0 = out := ⟨_, rfl⟩
    rw [hout] at HR2 HLE ⊢
    have HO2 := K0 hout; clear hout HOUT HLE2
    have hol := HLE.out
    go_wp2
    go_loopg [7] out.length (fun gg v7 wr => ∃ j : Nat, v7 = .int .i64 (j : Int) ∧ 1 ≤ j ∧ Aside0 (out.length ≤ j + gg) ∧ Aside0 (Kd.R (Kd.int .i64) 3 wr w.heap.size (fun _ => True) (.slice (some ⟨g, 0, none⟩) out.length c4) out) ∧ Aside0 (Below w.heap.size w wr) ∧ Aside0 (adjB (out.drop (j - 1)) = adjB out))
    case atStart => exact ⟨1, rfl, zqx _, ⟨by omega⟩, HR2, HB2, ⟨rfl⟩⟩
    case round =>
      clear HR2 HB2 HB
      obtain ⟨j, rfl, hj1, hg, hR, hB, hA⟩ := hrel
      by_cases hjt : j < out.length
      case neg =>
        have hd : decide ((j : Int) < (out.length : Int)) = false := zqu (by omega)
        have P2 : (j < out.length) = False := eq_false hjt
        have hz : adjB out = false := by
          rw [← hA.out]
          have hl : (out.drop (j - 1)).length ≤ 1 := by rw [zqq]; omega
          match out.drop (j - 1), hl with
          | [], _ => rfl
          | [_], _ => rfl
          | _ :: _ :: _, hl => exact absurd hl (by simp)
        have HZ := K0 hz; clear hz
        go_wp2
        go_ret2
        rw [HO2.out, HZ.out]
        exact ⟨_, rfl, hR.out, hB.out⟩
      obtain ⟨y, hy⟩ : ∃ y, out[j] = y := ⟨_, rfl⟩
      obtain ⟨x, hx⟩ : ∃ x, out[j - 1] = x := ⟨_, rfl⟩
      obtain ⟨c1, _⟩ := Kd.R_celln (0 : Int) hR.out (j : Int) (by omega) (by omega)
      obtain ⟨c2, _⟩ := Kd.R_celln (0 : Int) hR.out ((j : Int) - 1) (by omega) (by omega)
      have ej : rdOf 0 out (j : Int) = y := by simp [rdOf, hjt, hy]
      have ex : rdOf 0 out ((j : Int) - 1) = x := by rw [show (j : Int) - 1 = ((j - 1 : Nat) : Int) by omega]; simp [rdOf, show j - 1 < out.length by omega, hx]
      rw [ej] at c1
      rw [ex] at c2
      simp only [Int.toNat_natCast] at c1
      rw [show ((j : Int) - 1).toNat = j - 1 by omega] at c2
      have hA2 := hA.out
      rw [List.drop_eq_getElem_cons (show j - 1 < out.length by omega), hx, show j - 1 + 1 = j by omega, List.drop_eq_getElem_cons hjt, hy, adjB] at hA2
      have HA2 := K0 hA2
      have HY := K0 (show out.drop j = y :: out.drop (j + 1) by rw [List.drop_eq_getElem_cons hjt, hy])
      have P0 : ((0 : Int) ≤ (j : Int)) = True := eq_true (by omega)
      have P1 : ((j : Int) < (out.length : Int)) = True := eq_true (by omega)
      have P2 : (j < out.length) = True := eq_true hjt
      have P3 : ((1 : Int) ≤ (j : Int)) = True := eq_true (by omega)
      have P4 : ((j : Int) - 1 < (out.length : Int)) = True := eq_true (by omega)
      have hd : decide ((j : Int) < (out.length : Int)) = true := zqt (by omega)
      have P5 : IntKind.i64.wrap ((j : Int) - 1) = (j : Int) - 1 := Go.IntWalk.i64_in _ (by omega)
      have P6 : IntKind.i64.wrap (-x) = wrap64 (-x) := Go.IntWalk.i64_left _
      have mixed : Try.prog.follows .mixedOrders = true := by kernel_rfl
      clear hA hA2 ej ex hx hy
      go_wp2_with fail
      go_cut [41] (fun v41 wc => v41 = .bool (y == wrap64 (-x)) ∧ wc = wr.drew)
      case first =>
        go_region_law_o (fail)
        all_goals (go_wp2_with fail; go_meet; exact ⟨rfl, rfl⟩)
      case rest =>
      obtain ⟨rfl, rfl⟩ := hcut
      have HRd := K0 (Kd.R_drew hR.out)
      have HBd := K0 (below_drew hB.out)
      cases hq : (y == wrap64 (-x)) with
      | true =>
        have hz := HA2.out
        rw [hq, Bool.true_or] at hz
        have HZ := K0 hz; clear hz
        go_wp2
        go_ret2
        rw [HO2.out, ← HZ.out]
        exact ⟨_, rfl, HRd.out, HBd.out⟩
      | false =>
        have hz := HA2.out
        rw [hq, Bool.false_or] at hz
        have HZ := K0 hz; clear hz
        go_wp2
        go_roundg (out.length - j - 1)
        case measure => have := hg.out; omega
        case rel => exact ⟨j + 1, by simp, by omega, ⟨by omega⟩, HRd, HBd, ⟨by rw [show j + 1 - 1 = j by omega, HY.out]; exact HZ.out⟩⟩
def Eng.wput (E : Eng) (n x : Int) : Eng := { E with wt := fun y => if y = x then E.wt x ++ [n] else E.wt y, ws := E.ws + 1 }
def Eng.layW (E : Eng) (n : Int) (c : List Int) : Eng := c.foldl (fun E x => E.wput n x) E
def Eng.laid (E : Eng) (c : List Int) : Eng := { E.layW (E.cls.length : Int) c with cls := E.cls ++ [c] }
theorem Eng.layW_same (n : Int) : ∀ (c : List Int) (E : Eng), (E.layW n c).cls = E.cls ∧ (E.layW n c).tr = E.tr ∧ (E.layW n c).st = E.st ∧ (E.layW n c).ms = E.ms ∧ (E.layW n c).n = E.n ∧ (E.layW n c).br = E.br ∧ (E.layW n c).ws = E.ws + c.length
  | [], E => ⟨rfl, rfl, rfl, rfl, rfl, rfl, rfl⟩
  | x :: c, E => by
    obtain ⟨h1, h2, h3, h4, h5, h6, h7⟩ := Eng.layW_same n c (E.wput n x)
    exact ⟨h1, h2, h3, h4, h5, h6, by have : (Eng.layW E n (x :: c)).ws = (Eng.layW (E.wput n x) n c).ws := rfl; rw [this, h7]; show E.ws + 1 + c.length = E.ws + (c.length + 1); omega⟩
theorem Eng.layW_snoc (E : Eng) (n : Int) (c : List Int) (x : Int) : E.layW n (c ++ [x]) = (E.layW n c).wput n x := by
  unfold Eng.layW; rw [List.foldl_append]; rfl
set_option maxRecDepth 100000 in
set_option maxHeartbeats 4000000 in
theorem eng_lay.calls (E : Eng) (B : Nat) (T : Tag) (p : EngP) (A0 : Option Addr) (c0 : Nat) (l0 r1 : List Int) (r2 : Bool) (w : World) (h : EngIn w B T E p) (hr0 : Kd.C (Kd.int .i64) w A0 l0.length l0) (hc0 : l0.length ≤ c0) (hcl : lit_Clean.f l0 = some (r1, r2)) (hwf : ∀ x ∈ r1, (Lit.int .i64 x).wf = true) (hws : E.ws + r1.length < 4398046511104) (hcn : E.cls.length + 1 < 5864062014805) :
    Calls Try.prog 35 #[.pointer (some ⟨B, 0, none⟩), .slice A0 l0.length c0] w fun e w' => e = .returned (.tuple #[]) ∧ ∃ T' p', EngIn w' B T' (E.laid r1) p' ∧ Moved T T' w w' := by
  have HE := K0 h; have HWF := K0 hwf; have HSZ := K0 hws; have HCN := K0 hcn
  have HCL := K0 (lit_Clean.calls A0 c0 l0 r1 r2 w hr0 hc0 hcl)
  clear h hwf hws hcn hr0 hcl
  go_enter Try.func35, Try.ntmps35
  go_wp2_with fail
  refine HCL.out.mono ?_
  rintro e' w1 ⟨v0, rfl, hR0, hb0⟩
  obtain ⟨h1, m1, hR1⟩ := HE.out.newrow hb0 hR0
  obtain ⟨T1, hT1⟩ : ∃ T1, retag T w v0 (3, 0) = T1 := ⟨_, rfl⟩
  rw [hT1] at h1 m1 hR1
  obtain ⟨A4, k4, rfl⟩ := Kd.R_slice hR1
  have H1 := K0 h1; have M1 := K0 m1; have R1 := K0 hR1
  have hbig := (Kd.R_reads' hR1).2.2.2.1
  clear h1 m1 hR1 hR0 hb0 HE HCL hT1
  obtain ⟨n, hn⟩ : ∃ n, E.cls.length = n := ⟨_, rfl⟩
  have HN := K0 hn
  go_wp2
  go_loopg [7, 15] r1.length (fun gg _ v15 wr => ∃ (j : Nat) (T1 : Tag) (p1 : EngP), v15 = .int .i64 (j : Int) ∧ Aside0 (j + gg = r1.length) ∧ Aside0 (EngIn wr B T1 (E.layW (n : Int) (r1.take j)) p1) ∧ Aside0 (Moved T T1 w wr) ∧ Aside0 (Kd.R (Kd.int .i64) 3 wr 0 (fun k => T1 k = (3, 0)) (.slice A4 r1.length k4) r1))
  case atStart => exact ⟨0, T1, p, rfl, ⟨by simp⟩, H1, M1, R1⟩
  case round =>
    clear H1 M1 R1
    obtain ⟨j, T1, p1, rfl, hg, HE, HM, HR⟩ := hrel
    obtain ⟨E1, hE1⟩ : ∃ E1, E.layW (n : Int) (r1.take j) = E1 := ⟨_, rfl⟩
    rw [hE1] at HE
    obtain ⟨s1, s2, s3, s4, s5, s6, s7⟩ := E.layW_same (n : Int) (r1.take j)
    rw [hE1] at s1 s7
    have HE1 := K0 hE1
    by_cases hlt : j < r1.length
    case neg =>
      have hd : decide ((j : Int) < (r1.length : Int)) = false := zqu (by omega)
      have P2 : (j < r1.length) = False := eq_false hlt
      have htk : r1.take j = r1 := List.take_of_length_le (by omega)
      rw [htk] at hE1
      clear s1 s2 s3 s4 s5 s6 s7 HE1
      obtain ⟨s1, s2, s3, s4, s5, s6, s7⟩ := E.layW_same (n : Int) r1
      rw [hE1] at s1 s7
      have c1 := HE.out.cells.2.1
      have f1 := HE.out.cells.2.2.2.2.2.2.2 1
      have HE1 := K0 hE1; have HS1 := K0 s1
      have hcn := HCN.out
      have hl : p1.hs.length + 1 < 5864062014805 := by rw [HE.out.len, s1]; exact hcn
      have HLN := K0 hl; clear s1 s2 s3 s4 s5 s6 s7 hE1 htk hl
      go_wp2_with (at_builtin; refine Kd.R_append kH (w0 := wr) 0 rfl (.tmp 42) (.tmp 44) 22 25 (.slice none 0 0) 24 rfl Try.underlying22 (by kernel_rfl) rfl (by decide) (by decide) p1.vC p1.hs ((A4, r1.length, k4) : Hd) [.slice A4 r1.length k4] (fun k => T1 k = (2, 0) ∨ wr.heap.size ≤ k) (fun _ => False) rfl rfl rfl (fun _ h => h.elim) (fun k hk => .inr hk) (Kd.R_mono HE.out.cls (fun _ hk => .inl hk)) (zqw 0 _) (Nat.zero_le _) (by have := HLN.out; omega) ?_; intro v1 w1 rr hb1 hg1 hat1; obtain ⟨A1, k1, e1⟩ := Kd.R_slice rr; rw [List.length_append, List.length_singleton] at e1; subst e1; obtain ⟨c31, f31⟩ : w1.cell? ⟨B, 1, none⟩ = some p1.vC ∧ w1.frozen? ⟨B, 1, none⟩ = false := HE.out.after HE.out.cls.1 (by decide) hg1 1)
      go_end0
      obtain ⟨a1, a2⟩ := HE.out.turn_cls (a := (A4, r1.length, k4)) HR.out rr hg1
      have e : ({ E1 with cls := E1.cls ++ [r1] } : Eng) = E.laid r1 := by
        unfold Eng.laid
        rw [HN.out, HE1.out, HS1.out]
      rw [e] at a1
      exact ⟨rfl, _, _, a1, HM.out.trans a2⟩
    obtain ⟨ad, e1, x1⟩ := Kd.at_int (Kd.R_reads' HR.out).2.2 (j : Int) (by omega) (by omega)
    cases e1
    obtain ⟨y, hy⟩ : ∃ y, r1[j] = y := ⟨_, rfl⟩
    have hrd : rd r1 (j : Int) = y := by simp [rd, hlt, hy]
    rw [hrd] at x1
    simp only [Int.toNat_natCast] at x1
    have HY := K0 (show r1.take (j + 1) = r1.take j ++ [y] by rw [List.take_add_one, List.getElem?_eq_getElem hlt, hy]; rfl)
    have HWF := K0 (HWF.out y (by rw [← hy]; exact List.getElem_mem hlt))
    have hb0 : Below wr.heap.size wr wr.drew := below_drew (zqw _ _)
    have hD := HE.out.below hb0
    have hRD := Kd.R_below HR.out hb0
    obtain ⟨A1, k1, e1⟩ := Kd.R_slice hD.cls
    have c2 := hD.cells.2.2.1
    have c1 := hD.cells.2.1
    rw [e1, hD.len, s1, hn] at c1
    have hgr := hD.grp y
    obtain ⟨Ag, kg, eg⟩ := Kd.R_slice hgr
    have cq := hD.wt.look Try.underlying3 Try.underlying67 (zero_rowL wr.drew) HWF.out
    rw [eg] at cq hgr
    have hws := hD.wsz y
    obtain ⟨ws, hws0⟩ : ∃ ws, E1.wt y = ws := ⟨_, rfl⟩
    rw [hws0] at cq hgr hws
    obtain ⟨N1, hN1⟩ : ∃ N1 : Nat, n = N1 := ⟨_, rfl⟩
    rw [hN1] at c1
    obtain ⟨L, hL, hLl⟩ := hD.cov
    have hsz := HSZ.out
    have htl : (r1.take j).length ≤ j := List.length_take_le _ _
    have HWS := K0 (show ws.length < 4398046511104 by omega)
    have hLn : L.length < 4398046511104 := by omega
    have haft : ∀ w1, wr.drew.grownBy w1 (Value.slice Ag ws.length kg).ownBlock → w1.cell? ⟨B, 2, none⟩ = some (.map (some p1.bw)) ∧ w1.cell? ⟨B, 1, none⟩ = some (.slice A1 N1 k1) ∧ (Instr.lookup 67 (.map (some p1.bw)) (.int .i64 y) false).run Try.prog w1 = .ok (.slice Ag ws.length kg) w1 ∧ MapI Try.prog 3 w1 p1.bw p1.fw := fun w1 hg1 => by
      have hv := hgr.1
      have a2 := hD.after hv (tag_ne (by decide) _ _) hg1 2
      have a1 := hD.after hv (tag_ne (by decide) _ _) hg1 1
      have hM : MapI Try.prog 3 w1 p1.bw p1.fw := hD.wt.block (hg1.block _ hD.wt.lt (fun e => by have this : T1 p1.bw = (8, y) := hv _ e.symm; rw [hD.tW] at this; exact absurd (congrArg Prod.fst this) (show (7 : Int) ≠ 8 by decide)))
      refine ⟨a2.1, ?_, ?_, hM⟩
      · rw [a1.1]
        show some p1.vC = _
        rw [e1, hD.len, s1, hn, hN1]
      · have := hM.look Try.underlying3 Try.underlying67 (zero_rowL w1) HWF.out
        rw [this, eg, hws0]
    have hba : Below wr.drew.heap.size wr.drew (wr.drew.alloc (.cells #[.int .i64 (N1 : Int)] 3)) := zqb (zqw _ _) _
    have d2 := pw_cell_below hba c2
    have d1 := pw_cell_below hba c1
    have dq : (Instr.lookup 67 (.map (some p1.bw)) (.int .i64 y) false).run Try.prog (wr.drew.alloc (.cells #[.int .i64 (N1 : Int)] 3)) = .ok (.slice Ag ws.length kg) (wr.drew.alloc (.cells #[.int .i64 (N1 : Int)] 3)) := by
      have := (hD.below hba).wt.look Try.underlying3 Try.underlying67 (zero_rowL _) HWF.out
      rw [this, eg, hws0]
    have HAFT := K0 haft; have HD := K0 hD; have HG := K0 hgr; have HRD := K0 hRD
    have HMD := K0 (HM.out.trans (Moved.of_below hb0))
    have HEG := K0 eg; have HW0 := K0 hws0; have HN1 := K0 hN1
    have P0 : ((0 : Int) ≤ (j : Int)) = True := eq_true (by omega)
    have P1 : ((j : Int) < (r1.length : Int)) = True := eq_true (by omega)
    have P2 : (j < r1.length) = True := eq_true hlt
    have hd : decide ((j : Int) < (r1.length : Int)) = true := zqt (by omega)
    clear haft hD hgr hRD eg hws0 hN1 hy hrd hba hb0 e1 hws s1 s2 s3 s4 s5 s6 s7 hE1 HE HM HR; have HL := K0 hL; clear hL
    go_wp2
    refine start_ (n := 19) (S := fun w' => w'.cell? ⟨B, 2, none⟩ = some (.map (some p1.bw)) ∧ w'.cell? ⟨B, 1, none⟩ = some (.slice A1 N1 k1) ∧ (Instr.lookup 67 (.map (some p1.bw)) (.int .i64 y) false).run Try.prog w' = .ok (.slice Ag ws.length kg) w') (ds := [18]) #[false, false, false, false, false, false, false, false, false, false, false, false, false, false, false, false, false, false, false] (by kernel_rfl) rfl rfl ⟨c2, c1, cq⟩ (fun hHeld => ?_)
    refine pure_ (i := 0) (N := some 19) (v := ?_) (a' := ?_) #[true, false, false, false, false, false, false, false, false, false, false, false, false, false, false, false, false, false, false] rfl rfl (by kernel_rfl) (fun _ _ _ h => h) (Or.inl ⟨by rfl, ?_⟩) ?_ ?_
    rotate_left
    · intro w'
      go_simp
      with_reducible rfl
    rotate_left
    · simp only [Act.put, zqf, zqg, zqh, i64_w, i32_w]
      rfl
    refine pure_ (i := 1) (N := some 20) (v := ?_) (a' := ?_) #[true, true, false, false, false, false, false, false, false, false, false, false, false, false, false, false, false, false, false] rfl rfl (by kernel_rfl) (fun _ _ _ h => h) (Or.inl ⟨by rfl, ?_⟩) ?_ ?_
    rotate_left
    · intro w'
      go_simp
      with_reducible rfl
    rotate_left
    · simp only [Act.put, zqf, zqg, zqh, i64_w, i32_w]
      rfl
    refine pure_ (i := 2) (N := some 21) (v := ?_) (a' := ?_) #[true, true, true, false, false, false, false, false, false, false, false, false, false, false, false, false, false, false, false] rfl rfl (by kernel_rfl) (fun _ _ _ h => h) (Or.inl ⟨by rfl, ?_⟩) ?_ ?_
    rotate_left
    · intro w'
      go_simp
      with_reducible rfl
    rotate_left
    · simp only [Act.put, zqf, zqg, zqh, i64_w, i32_w]
      rfl
    refine pure_ (i := 4) (N := some 23) (v := ?_) (a' := ?_) #[true, true, true, false, true, false, false, false, false, false, false, false, false, false, false, false, false, false, false] rfl rfl (by kernel_rfl) (fun _ _ _ h => h) (Or.inl ⟨by rfl, ?_⟩) ?_ ?_
    rotate_left
    · intro w'
      go_simp
      with_reducible rfl
    rotate_left
    · simp only [Act.put, zqf, zqg, zqh, i64_w, i32_w]
      rfl
    refine pure_ (i := 5) (N := some 24) (v := ?_) (a' := ?_) #[true, true, true, false, true, true, false, false, false, false, false, false, false, false, false, false, false, false, false] rfl rfl (by kernel_rfl) (fun _ _ _ h => h) (Or.inl ⟨by rfl, ?_⟩) ?_ ?_
    rotate_left
    · intro w'
      go_simp
      with_reducible rfl
    rotate_left
    · simp only [Act.put, zqf, zqg, zqh, i64_w, i32_w]
      rfl
    refine pure_ (i := 6) (N := some 25) (v := ?_) (a' := ?_) #[true, true, true, false, true, true, true, false, false, false, false, false, false, false, false, false, false, false, false] rfl rfl (by kernel_rfl) (fun _ _ _ h => h) (Or.inl ⟨by rfl, ?_⟩) ?_ ?_
    rotate_left
    · intro w'
      go_simp
      with_reducible rfl
    rotate_left
    · simp only [Act.put, zqf, zqg, zqh, i64_w, i32_w]
      rfl
    refine pure_ (i := 7) (N := some 26) (v := ?_) (a' := ?_) #[true, true, true, false, true, true, true, true, false, false, false, false, false, false, false, false, false, false, false] rfl rfl (by kernel_rfl) (fun _ _ _ h => h) (Or.inl ⟨by rfl, ?_⟩) ?_ ?_
    rotate_left
    · intro w'
      go_simp
      with_reducible rfl
    rotate_left
    · simp only [Act.put, zqf, zqg, zqh, i64_w, i32_w]
      rfl
    refine pure_ (i := 9) (N := some 28) (v := ?_) (a' := ?_) #[true, true, true, false, true, true, true, true, false, true, false, false, false, false, false, false, false, false, false] rfl rfl (by kernel_rfl) (fun _ _ _ h => h) (Or.inl ⟨by rfl, ?_⟩) ?_ ?_
    rotate_left
    · intro w'
      go_simp
      with_reducible rfl
    rotate_left
    · simp only [Act.put, zqf, zqg, zqh, i64_w, i32_w]
      rfl
    refine pure_ (i := 11) (N := some 30) (v := ?_) (a' := ?_) #[true, true, true, false, true, true, true, true, false, true, false, true, false, false, false, false, false, false, false] rfl rfl (by kernel_rfl) (fun _ _ _ h => h) (Or.inl ⟨by rfl, ?_⟩) ?_ ?_
    rotate_left
    · intro w'
      go_simp
      with_reducible rfl
    rotate_left
    · simp only [Act.put, zqf, zqg, zqh, i64_w, i32_w]
      rfl
    refine pure_ (i := 12) (N := some 31) (v := ?_) (a' := ?_) #[true, true, true, false, true, true, true, true, false, true, false, true, true, false, false, false, false, false, false] rfl rfl (by kernel_rfl) (fun _ _ _ h => h) (Or.inl ⟨by rfl, ?_⟩) ?_ ?_
    rotate_left
    · intro w'
      go_simp
      with_reducible rfl
    rotate_left
    · simp only [Act.put, zqf, zqg, zqh, i64_w, i32_w]
      rfl
    refine pure_ (i := 13) (N := some 32) (v := ?_) (a' := ?_) #[true, true, true, false, true, true, true, true, false, true, false, true, true, true, false, false, false, false, false] rfl rfl (by kernel_rfl) (fun _ _ _ h => h) (Or.inl ⟨by rfl, ?_⟩) ?_ ?_
    rotate_left
    · intro w'
      go_simp
      with_reducible rfl
    rotate_left
    · simp only [Act.put, zqf, zqg, zqh, i64_w, i32_w]
      rfl
    refine take_ (i := 3) (N := some 22) (v := ?_) (a' := ?_) #[true, true, true, true, true, true, true, true, false, true, false, true, true, true, false, false, false, false, false] rfl rfl (by kernel_rfl) (fun _ _ _ h => h) (Or.inl ⟨by rfl, ?_⟩) hHeld ?_ ?_
    rotate_left
    · rintro w' ⟨s0, s1, s2⟩
      go_simp
      with_reducible rfl
    rotate_left
    · simp only [Act.put, zqf, zqg, zqh, i64_w, i32_w]
      rfl
    refine take_ (i := 8) (N := some 27) (v := ?_) (a' := ?_) #[true, true, true, true, true, true, true, true, true, true, false, true, true, true, false, false, false, false, false] rfl rfl (by kernel_rfl) (fun _ _ _ h => h) (Or.inl ⟨by rfl, ?_⟩) hHeld ?_ ?_
    rotate_left
    · rintro w' ⟨s0, s1, s2⟩
      go_simp
      with_reducible rfl
    rotate_left
    · simp only [Act.put, zqf, zqg, zqh, i64_w, i32_w]
      rfl
    refine take_ (i := 10) (N := some 29) (v := ?_) (a' := ?_) #[true, true, true, true, true, true, true, true, true, true, true, true, true, true, false, false, false, false, false] rfl rfl (by kernel_rfl) (fun _ _ _ h => h) (Or.inl ⟨by rfl, ?_⟩) hHeld ?_ ?_
    rotate_left
    · rintro w' ⟨s0, s1, s2⟩
      go_simp
      with_reducible rfl
    rotate_left
    · simp only [Act.put, zqf, zqg, zqh, i64_w, i32_w]
      rfl
    refine take_ (i := 14) (N := some 33) (v := ?_) (a' := ?_) #[true, true, true, true, true, true, true, true, true, true, true, true, true, true, true, false, false, false, false] rfl rfl (by kernel_rfl) (fun _ _ _ h => h) (Or.inl ⟨by rfl, ?_⟩) hHeld ?_ ?_
    rotate_left
    · rintro w' ⟨s0, s1, s2⟩
      go_simp
      with_reducible rfl
    rotate_left
    · simp only [Act.put, zqf, zqg, zqh, i64_w, i32_w]
      rfl
    refine pure_ (i := 15) (N := some 34) (v := ?_) (a' := ?_) #[true, true, true, true, true, true, true, true, true, true, true, true, true, true, true, true, false, false, false] rfl rfl (by kernel_rfl) (fun _ _ _ h => h) (Or.inl ⟨by rfl, ?_⟩) ?_ ?_
    rotate_left
    · intro w'
      go_simp
      with_reducible rfl
    rotate_left
    · simp only [Act.put, zqf, zqg, zqh, i64_w, i32_w]
      rfl
    refine one_ (i := 16) (N := some 35) #[true, true, true, true, true, true, true, true, true, true, true, true, true, true, true, true, true, false, false] rfl rfl (by kernel_rfl) (by decide) (fun K hK => ?_)
    refine value_ (w1 := ?_) (v := ?_) (by rfl) rfl ?_ ?_
    rotate_left 2
    · go_simp
      constructor
      · rfl
      rfl
    refine hK.out _ _ ⟨d2, d1, dq⟩ (fun hHeld => ?_)
    clear hK K
    refine norm_ (a' := ?_) ?_ ?_
    rotate_left
    · show Act.put _ (some 35) _ = _
      simp only [Act.put, zqf, zqg, zqh, i64_w, i32_w]
      rfl
    refine one_ (i := 17) (N := some 36) #[true, true, true, true, true, true, true, true, true, true, true, true, true, true, true, true, true, true, false] rfl rfl (by kernel_rfl) (by decide) (fun K hK => ?_)
    refine Kd.R_append_step (Kd.int .i64) (w0 := wr.drew) (W := wr.drew) 0 (by rfl) (.tmp 29) (.tmp 35) 25 3 (.int .i64 0) 8 rfl Try.underlying25 (by kernel_rfl) rfl (by decide) (by decide) (.slice Ag ws.length kg) ws (N1 : Int) [.int .i64 (N1 : Int)] (fun k => T1 k = (8, y) ∨ wr.drew.heap.size ≤ k) (fun _ => False) (by rfl) (by rfl) rfl (fun _ h => h.elim) (fun k hk => .inr hk) (Kd.R_mono HG.out (fun _ hk => .inl hk)) (zqw 0 _) (Nat.zero_le _) (by have := HWS.out; omega) ?_
    intro v1 w1 r1' hb1 hg1 hat1
    obtain ⟨f2, f1, fq, hMw⟩ := HAFT.out w1 hg1
    refine hK.out _ _ ⟨f2, f1, fq⟩ (fun hHeld => ?_)
    clear hK K
    refine norm_ (a' := ?_) ?_ ?_
    rotate_left
    · show Act.put _ (some 36) _ = _
      simp only [Act.put, zqf, zqg, zqh, i64_w, i32_w]
      rfl
    refine last_ (i := 18) (N := none) #[true, true, true, true, true, true, true, true, true, true, true, true, true, true, true, true, true, true, true] rfl rfl (by kernel_rfl) (by decide) (fun K hK => ?_)
    refine step_store_I (by rfl) (.tmp 22) (.tmp 23) (.tmp 36) 67 rfl 3 25 Try.underlying3 Try.underlying67 p1.bw p1.fw (by rfl) hMw y v1 (by rfl) (by rfl) HWF.out L HL.out (by omega) ?_
    intro w2 hM2 hg2
    refine hK.out _ _ ?_
    clear hK K
    refine done_ (by kernel_rfl) ?_
    have hgw : wr.drew.grownBy w1 ((p1.fw y).getD (.slice none 0 0)).ownBlock := by rw [HEG.out, HW0.out]; exact hg1
    obtain ⟨T2, p2, h2, m2, hk2⟩ : ∃ T2 p2, EngIn w2 B T2 { E1 with wt := fun y' => if y' = y then ws ++ [(N1 : Int)] else E1.wt y', ws := E1.ws + 1 } p2 ∧ Moved T1 T2 wr.drew w2 ∧ (∀ {v : Value} {zs : List Int}, Kd.R (Kd.int .i64) 3 wr.drew 0 (fun k => T1 k = (3, 0)) v zs → Kd.R (Kd.int .i64) 3 w2 0 (fun k => T2 k = (3, 0)) v zs) := ⟨_, _, HD.out.turn_wt r1' hgw hM2 hg2 (by have := HD.out.wsz y; rw [HW0.out] at this; simp; omega)⟩
    have H2 := K0 h2
    have M2 := K0 (HMD.out.trans m2)
    have R2 := K0 (hk2 HRD.out)
    clear h2 m2 hk2 r1' hgw hM2 hg2 hg1 hb1 hat1 hMw f2 f1 fq
    go_wp2
    go_roundg (r1.length - (j + 1))
    case measure => have := hg.out; omega
    case rel =>
      refine ⟨j + 1, T2, p2, by simp, ⟨by have := hg.out; omega⟩, ?_, M2, R2⟩
      have h := H2.out
      rw [HY.out, Eng.layW_snoc, HE1.out]
      refine ⟨?_⟩
      unfold Eng.wput
      rw [HW0.out, HN1.out]
      exact h
theorem Eng.laid_same (E : Eng) (c : List Int) : (E.laid c).br = E.br ∧ (E.laid c).tr = E.tr ∧ (E.laid c).cls = E.cls ++ [c] ∧ (E.laid c).st = E.st ∧ (E.laid c).n = E.n ∧ (E.laid c).ms = E.ms ∧ (E.laid c).ws = E.ws + c.length := by
  obtain ⟨h1, h2, h3, h4, h5, h6, h7⟩ := E.layW_same (E.cls.length : Int) c
  exact ⟨h6, h2, rfl, h3, h5, h4, h7⟩
theorem Eng.laid_lits {E : Eng} {c : List Int} (h : E.Lits) (hc : ∀ x ∈ c, (Lit.int .i64 x).wf = true) : (E.laid c).Lits := fun d hd => by
  rw [(E.laid_same c).2.2.1] at hd
  rcases List.mem_append.1 hd with hd | hd
  · exact h d hd
  rw [List.mem_singleton.1 hd]; exact hc
def Eng.fresh (n : Int) : Eng := ⟨n, [], fun _ => [], 0, [], fun _ => none, [], -1⟩
def Eng.lays : List (List Int) → Eng → Option Eng
  | [], E => some E
  | c :: l, E => (lit_Clean.f c).bind fun r => if E.ws + r.1.length < 4398046511104 ∧ E.cls.length + 1 < 5864062014805 then Eng.lays l (E.laid r.1) else none
def Eng.new (k : Nat) (n : Int) (l : List (List Int)) : Option (Eng × Int) :=
  (cnf_Right.f k n l).bind fun r => if r.2 ≠ 0 then some (Eng.fresh n, r.2) else (Eng.lays l (Eng.fresh n)).bind fun E => (Eng.settle k E).bind fun E2 => some (E2, 0)
def NewPost (E : Eng) (B : Nat) (w w' : World) : Prop := ∃ T p, EngIn w' B T E p ∧ Below w.heap.size w w' ∧ ∀ k, k < w.heap.size → T k = (0, 0)
def newT (B : Nat) : Tag := fun k => if k = B then (1, 0) else if k + 1 = B then (6, 0) else if k + 2 = B then (7, 0) else (0, 0)
theorem EngIn.new {W W' : World} (n : Int) (hb : Below (W.heap.size + 2) ((W.alloc (.map #[] 0)).alloc (.map #[] 0)) W') (hx : W'.heap[W.heap.size + 2]? = some (.cells #[.int .i64 n, .slice none 0 0, .map (some W.heap.size), .slice none 0 0, .map (some (W.heap.size + 1)), .slice none 0 0, .int .i64 (-1)] 70 (0, 0))) :
    EngIn W' (W.heap.size + 2) (newT (W.heap.size + 2)) (Eng.fresh n) ⟨.slice none 0 0, [], .slice none 0 0, .slice none 0 0, W.heap.size, W.heap.size + 1, fun _ => none⟩ := by
  have hlt := blk_lt hx
  have m1 : MapI Try.prog 3 W' W.heap.size (fun _ => none) := by
    have h0 := MapI.made W Try.prog 3
    have h1 := h0.block (w' := (W.alloc (.map #[] 0)).alloc (.map #[] 0)) ((zqb (zqw _ _) _).block _ h0.lt)
    exact h1.block (hb.block _ (by have := h0.lt; omega))
  have m2 : MapI Try.prog 3 W' (W.heap.size + 1) (fun _ => none) := by
    have h0 := MapI.made (W.alloc (.map #[] 0)) Try.prog 3
    have e1 : (W.alloc (.map #[] 0)).heap.size = W.heap.size + 1 := by simp
    rw [e1] at h0
    exact h0.block (hb.block _ (by omega))
  have t2 : newT (W.heap.size + 2) (W.heap.size + 1) = (6, 0) := by unfold newT; rw [if_neg (by omega), if_pos (by omega)]
  have t3 : newT (W.heap.size + 2) W.heap.size = (7, 0) := by unfold newT; rw [if_neg (by omega), if_neg (by omega), if_pos rfl]
  exact { fresh := fun k hk => by unfold newT; rw [if_neg (by omega), if_neg (by omega), if_neg (by omega)], blk := hx, tB := by unfold newT; rw [if_pos rfl], cls := Kd.R_nil _ _ _ _ _, len := rfl, rows := fun i a c ha => by simp at ha, tr := Kd.R_nil _ _ _ _ _, st := Kd.R_nil _ _ _ _ _, ms := m2, tM := t2, mst := fun x hx => by simp [Eng.fresh] at hx, wt := m1, tW := t3, grp := fun x => Kd.R_nil _ _ _ _ _, cov := ⟨[], fun x hx => by simp at hx, by simp [Eng.fresh]⟩, wsz := fun x => by simp [Eng.fresh] }
set_option maxRecDepth 100000 in
set_option maxHeartbeats 4000000 in
theorem eng_New.calls (k : Nat) (n : Int) (A0 : Option Addr) (c0 : Nat) (l0 : List (List Int)) (E2 : Eng) (w : World) (hr0 : Kd.C (Kd.slice 3 (Kd.int .i64)) w A0 l0.length l0) (hc0 : l0.length ≤ c0) (hwf : ∀ c ∈ l0, ∀ r, lit_Clean.f c = some r → ∀ x ∈ r.1, (Lit.int .i64 x).wf = true) (hf : Eng.new k n l0 = some (E2, 0)) :
    Calls Try.prog 25 #[.agg #[.int .i64 n, .slice A0 l0.length c0]] w fun e w' => ∃ B, e = .returned (.tuple #[.pointer (some ⟨B, 0, none⟩), .int .i64 0]) ∧ NewPost E2 B w w' := by
  unfold Eng.new at hf
  obtain ⟨⟨ra, re⟩, hcr, hf⟩ := Option.bind_eq_some_iff.mp hf
  have hre : re = 0 := by
    by_cases h : re = 0
    · exact h
    · replace hf : (if re ≠ 0 then some (Eng.fresh n, re) else (Eng.lays l0 (Eng.fresh n)).bind fun E => (Eng.settle k E).bind fun E2 => some (E2, 0)) = some (E2, (0 : Int)) := hf
      rw [if_pos h] at hf
      simp only [Option.some.injEq, Prod.mk.injEq] at hf
      exact hf.2
  subst hre
  replace hf : ((Eng.lays l0 (Eng.fresh n)).bind fun E => (Eng.settle k E).bind fun E2 => some (E2, 0)) = some (E2, (0 : Int)) := hf
  obtain ⟨E3, hl, hf⟩ := Option.bind_eq_some_iff.mp hf
  obtain ⟨E4, hs, hf⟩ := Option.bind_eq_some_iff.mp hf
  simp only [Option.some.injEq, Prod.mk.injEq] at hf
  obtain ⟨rfl, -⟩ := hf
  have HR := K0 hr0
  have HC := K0 hc0
  have HWF := K0 hwf
  have HL := K0 hl
  have HS := K0 hs
  have HCR := K0 hcr
  have hu24 := Try.underlying24
  have hu93 := Try.underlying70
  clear hr0 hc0 hwf hl hs hcr
  have HB := K0 (zqw w.heap.size w)
  go_enter Try.func25, Try.ntmps25
  go_upto_region 1 with (first | ((with_reducible refine gate_dst (N := 1) rfl ?_); refine box_event ?hg (N := 1) ?hd (cs := #[.int .i64 n, .slice A0 l0.length c0]) (t := 24) ?hr ?_; (case hd => rfl); (case hg => rfl); (case hr => first | (go_simp; done) | (go_simp; rfl)); intro gb108 hg w3 hbox hb; have n0_ := K0 (zqo HB.out hb); have BK := K0 hbox; have GE := K0 (by rw [hg]; exact (zqp HB.out) : w.heap.size ≤ gb108); clear HB; have HB := n0_; clear n0_; clear hb hbox hg))
  (try simp only [Act.put, zqf, zqg, zqh])
  have cb0 : w3.cell? ⟨gb108, 0, none⟩ = some (.int .i64 n) := (zql BK.out 0).trans rfl
  have cb1 : w3.cell? ⟨gb108, 1, none⟩ = some (.slice A0 l0.length c0) := (zql BK.out 1).trans rfl
  have HCALL := K0 (cnf_Right.calls k n A0 c0 l0 ra 0 w3 (Kd.C_below HR.out HB.out) HC.out HCR.out)
  go_wp2_with fail
  refine HCALL.out.mono ?_
  rintro e' w1 ⟨rfl, hb1⟩
  have BK1 := K0 (zqn BK.out hb1)
  have HB1 := K0 (zqo HB.out hb1)
  clear hb1 HCALL BK HB cb0 cb1
  have cb0 : w1.cell? ⟨gb108, 0, none⟩ = some (.int .i64 n) := (zql BK1.out 0).trans rfl
  have cb1 : w1.cell? ⟨gb108, 1, none⟩ = some (.slice A0 l0.length c0) := (zql BK1.out 1).trans rfl
  have hmm := @run_makeMap Try.prog
  have e2 : ((w1.alloc (.map #[] 0)).alloc (.map #[] 0)).heap.size = w1.heap.size + 1 + 1 := by simp
  have hx := blk_new ((w1.alloc (.map #[] 0)).alloc (.map #[] 0)) (.cells #[.int .i64 n, .slice none 0 0, .map (some w1.heap.size), .slice none 0 0, .map (some (w1.heap.size + 1)), .slice none 0 0, .int .i64 (-1)] 70)
  rw [e2] at hx
  obtain ⟨W4, hW4⟩ : ∃ W4, ((w1.alloc (.map #[] 0)).alloc (.map #[] 0)).alloc (.cells #[.int .i64 n, .slice none 0 0, .map (some w1.heap.size), .slice none 0 0, .map (some (w1.heap.size + 1)), .slice none 0 0, .int .i64 (-1)] 70) = W4 := ⟨_, rfl⟩
  have hb4 : Below w1.heap.size w1 W4 := by rw [← hW4]; exact zqb (zqb (zqb (zqw _ _) _) _) _
  have hb3 : Below (w1.heap.size + 2) ((w1.alloc (.map #[] 0)).alloc (.map #[] 0)) W4 := by
    have := zqb (zqw ((w1.alloc (.map #[] 0)).alloc (.map #[] 0)).heap.size ((w1.alloc (.map #[] 0)).alloc (.map #[] 0))) (.cells #[.int .i64 n, .slice none 0 0, .map (some w1.heap.size), .slice none 0 0, .map (some (w1.heap.size + 1)), .slice none 0 0, .int .i64 (-1)] 70)
    rw [e2, hW4] at this
    exact this
  rw [hW4] at hx
  have cb2 := (zql (zqn BK1.out hb4) 1).trans rfl
  rw [← hW4] at cb2
  have H0 := K0 (EngIn.new n hb3 hx)
  have HB4 := K0 (zqo HB1.out hb4)
  have T0 : Aside0 (∀ k, k < w.heap.size → newT (w1.heap.size + 2) k = (0, 0)) := ⟨fun k hk => by
    have := HB1.out.size
    unfold newT
    rw [if_neg (by omega), if_neg (by omega), if_neg (by omega)]⟩
  rw [← hW4] at H0 HB4
  clear hx hb3 hb4 e2 hW4
  have hbig : l0.length ≤ 9223372036854775807 := HR.out.2.1
  go_wp2
  go_loopg [8, 26] l0.length (fun gg _ v26 wr => ∃ (j : Nat) (E1 : Eng) (T1 : Tag) (p1 : EngP), v26 = .int .i64 (j : Int) ∧ Aside0 (j + gg = l0.length) ∧ Aside0 (EngIn wr (w1.heap.size + 1 + 1) T1 E1 p1) ∧ Aside0 (Below w.heap.size w wr) ∧ Aside0 (∀ k, k < w.heap.size → T1 k = (0, 0)) ∧ Aside0 E1.Lits ∧ Aside0 (Eng.lays (l0.drop j) E1 = some E3))
  case atStart => exact ⟨0, _, _, _, rfl, ⟨by simp⟩, H0, HB4, T0, ⟨fun c hc => by simp [Eng.fresh] at hc⟩, HL⟩
  case round =>
    clear H0 HB4 T0 HL cb0 cb1 cb2 hmm
    obtain ⟨j, E1, T1, p1, rfl, hg, HE, HBw, HT, HLI, HLY⟩ := hrel
    by_cases hlt : j < l0.length
    · obtain ⟨c, hc⟩ : ∃ c, l0[j] = c := ⟨_, rfl⟩
      have hrd : rd_L3 l0 (j : Int) = c := by unfold rd_L3; rw [Int.toNat_natCast, List.getD_eq_getElem?_getD, List.getElem?_eq_getElem hlt, hc]; rfl
      have hly := HLY.out
      rw [List.drop_eq_getElem_cons hlt, hc] at hly
      replace hly : ((lit_Clean.f c).bind fun r => if E1.ws + r.1.length < 4398046511104 ∧ E1.cls.length + 1 < 5864062014805 then Eng.lays (l0.drop (j + 1)) (E1.laid r.1) else none) = some E3 := hly
      obtain ⟨⟨q1, q2⟩, hcl, hly⟩ := Option.bind_eq_some_iff.mp hly
      replace hly : (if E1.ws + q1.length < 4398046511104 ∧ E1.cls.length + 1 < 5864062014805 then Eng.lays (l0.drop (j + 1)) (E1.laid q1) else none) = some E3 := hly
      by_cases hq : E1.ws + q1.length < 4398046511104 ∧ E1.cls.length + 1 < 5864062014805
      · rw [if_pos hq] at hly
        obtain ⟨ad, A1, c1, e1, x1, l1, i1⟩ := at_L3 HR.out (j : Int) (by omega) (by omega)
        cases e1
        rw [hrd] at x1 l1 i1
        have x2 := (HBw.out.cell (World.block_lt_of_cell? w _ x1)).trans x1
        simp only [Int.toNat_natCast] at x2
        have hwfc := HWF.out c (by rw [← hc]; exact List.getElem_mem hlt) (q1, q2) hcl
        have HCALL := K0 (eng_lay.calls E1 _ T1 p1 A1 c1 c q1 q2 wr HE.out (Kd.C_below i1 HBw.out) l1 hcl hwfc hq.1 hq.2)
        have P0 : ((0 : Int) ≤ (j : Int)) = True := eq_true (by omega)
        have P1 : ((j : Int) < (l0.length : Int)) = True := eq_true (by omega)
        have P2 : (j < l0.length) = True := eq_true hlt
        have hd : decide ((j : Int) < (l0.length : Int)) = true := zqt (by omega)
        have HLY2 := K0 hly
        have HLI2 := K0 (Eng.laid_lits HLI.out hwfc)
        clear hly hq x1 l1 i1 hrd hwfc hcl hc HLY
        go_wp2_with fail
        refine HCALL.out.mono ?_
        rintro e' w5 ⟨rfl, T5, p5, h5, m5⟩
        have H5 := K0 h5
        have HB5 := K0 (Below.trans HBw.out (m5.below _ HBw.out.size HT.out))
        have HT5 := K0 (show ∀ k, k < w.heap.size → T5 k = (0, 0) from fun k hk => ((m5.old k (Nat.lt_of_lt_of_le hk HBw.out.size)).1.trans (HT.out k hk)))
        clear h5 m5 HCALL x2
        go_wp2
        go_roundg (l0.length - (j + 1))
        case measure => have := hg.out; omega
        case rel => exact ⟨j + 1, _, T5, p5, by simp, ⟨by have := hg.out; omega⟩, H5, HB5, HT5, HLI2, HLY2⟩
      · rw [if_neg hq] at hly; cases hly
    · have hj : l0.drop j = [] := List.drop_eq_nil_of_le (by omega)
      have hly := HLY.out
      rw [hj] at hly
      have hE : E1 = E3 := zqv hly
      have HCALL := K0 (eng_settle.calls k E1 _ T1 p1 E4 wr HE.out HLI.out (by rw [hE]; exact HS.out))
      have hd : decide ((j : Int) < (l0.length : Int)) = false := zqu (by omega)
      have P2 : (j < l0.length) = False := eq_false hlt
      clear hly hj HLY hE
      go_wp2_with fail
      refine HCALL.out.mono ?_
      rintro e' w5 ⟨rfl, T5, p5, h5, m5, f5⟩
      have H5 := K0 h5
      have HB5 := K0 (Below.trans HBw.out (m5.below _ HBw.out.size HT.out))
      have HT5 := K0 (show ∀ k, k < w.heap.size → T5 k = (0, 0) from fun k hk => ((m5.old k (Nat.lt_of_lt_of_le hk HBw.out.size)).1.trans (HT.out k hk)))
      clear h5 m5 f5 HCALL
      go_wp2
      go_ret2
      exact ⟨_, rfl, T5, p5, H5.out, HB5.out, HT5.out⟩
def Eng.add (k : Nat) (E : Eng) (c : List Int) : Option (Eng × Int) :=
  (lit_Right.f k c E.n).bind fun e => if e ≠ 0 then some (E, e) else if E.cls.length ≥ 4096 then some (E, 2) else (lit_Clean.f c).bind fun r =>
    if E.ws + r.1.length < 4398046511104 ∧ E.tr.length < 4398046511104 then (if E.br < 0 then (Eng.follow k ((E.laid r.1).look E.cls.length) E.tr.length).bind fun E' => some (E', 0) else some (E.laid r.1, 0)) else none
set_option maxRecDepth 100000 in
set_option maxHeartbeats 4000000 in
theorem eng_Add.calls (k : Nat) (E : Eng) (B : Nat) (T : Tag) (p : EngP) (A0 : Option Addr) (c0 : Nat) (l0 : List Int) (E2 : Eng) (r : Int) (w : World) (h : EngIn w B T E p) (hr0 : Kd.C (Kd.int .i64) w A0 l0.length l0) (hc0 : l0.length ≤ c0) (hlit : E.Lits) (hwf : ∀ r, lit_Clean.f l0 = some r → ∀ x ∈ r.1, (Lit.int .i64 x).wf = true) (hf : Eng.add k E l0 = some (E2, r)) :
    Calls Try.prog 65 #[.pointer (some ⟨B, 0, none⟩), .slice A0 l0.length c0] w fun e w' => e = .returned (.int .i64 r) ∧ ∃ T' p', EngIn w' B T' E2 p' ∧ Moved T T' w w' := by
  unfold Eng.add at hf
  obtain ⟨e, he, hf⟩ := Option.bind_eq_some_iff.mp hf
  have c0' := h.cells.1
  have HE := K0 h
  have HR := K0 (lit_Right.calls k A0 c0 l0 E.n e w hr0 hc0 he)
  clear he
  by_cases h0 : e = 0
  · subst h0
    rw [if_neg (by decide)] at hf
    obtain ⟨A1, k1, e1⟩ := Kd.R_slice h.cls
    obtain ⟨N, hN⟩ : ∃ N, E.cls.length = N := ⟨_, rfl⟩
    have hcc : ∀ {W : World}, Below w.heap.size w W → W.cell? ⟨B, 1, none⟩ = some (.slice A1 N k1) := fun hb => by
      rw [(h.below hb).cells.2.1, e1, h.len, hN]
    have HCC := K0 @hcc
    rw [hN] at hf
    by_cases h4 : N ≥ 4096
    · rw [if_pos h4] at hf
      simp only [Option.some.injEq, Prod.mk.injEq] at hf
      obtain ⟨h1, h2⟩ := hf
      subst h2
      have H2 := K0 h1
      have d1 : decide ((4096 : Int) ≤ (N : Int)) = true := zqt (by omega)
      have d2 : (4096 ≤ N) = True := eq_true h4
      clear h1 h hlit hwf hr0 hN hcc e1
      go_enter Try.func65, Try.ntmps65
      go_wp2_with fail
      refine HR.out.mono ?_
      rintro e' w1 ⟨rfl, ⟨⟨n1, rfl⟩⟩⟩
      have hb1 := zqa (zqw w.heap.size w) n1
      have c1 := HCC.out hb1
      have HB1 := K0 hb1
      clear hb1
      go_wp2
      go_ret
      rw [← H2.out]
      exact ⟨rfl, T, p, HE.out.below HB1.out, Moved.of_below HB1.out⟩
    · rw [if_neg h4] at hf
      obtain ⟨⟨r1, r2⟩, hcl, hf⟩ := Option.bind_eq_some_iff.mp hf
      dsimp only at hf
      by_cases hbd : E.ws + r1.length < 4398046511104 ∧ E.tr.length < 4398046511104
      · rw [if_pos hbd] at hf
        have d1 : decide ((4096 : Int) ≤ (N : Int)) = false := zqu (by omega)
        have d2 : (4096 ≤ N) = False := eq_false h4
        have hw1 := hwf _ hcl
        have HCALL := K0 (fun W (hW : Below w.heap.size w W) => eng_lay.calls E B T p A0 c0 l0 r1 r2 W (h.below hW) (Kd.C_below hr0 hW) hc0 hcl hw1 hbd.1 (by rw [hN]; omega))
        obtain ⟨s1, s2, s3, s4, s5, s6, s7⟩ := E.laid_same r1
        have HS1 := K0 s1
        have HS2 := K0 s2
        have HS3 := K0 (show (E.laid r1).cls.length = N + 1 by rw [s3, List.length_append, hN]; rfl)
        have HLL := K0 (Eng.laid_lits hlit hw1)
        have HBD := K0 hbd
        have HF := K0 hf
        have hNb : N < 4096 := by omega
        clear h hlit hwf hr0 hN hcc e1 hcl hw1 s1 s2 s3 s4 s5 s6 s7 hbd hf h4
        go_enter Try.func65, Try.ntmps65
        go_wp2_with fail
        refine HR.out.mono ?_
        rintro e' w1 ⟨rfl, ⟨⟨n1, rfl⟩⟩⟩
        have hb1 := zqa (zqw w.heap.size w) n1
        have c1 := HCC.out hb1
        have HB1 := K0 hb1
        clear hb1
        go_wp2_with fail
        refine (HCALL.out _ HB1.out).mono ?_
        rintro e' w2 ⟨rfl, T2, p2, h2, m2⟩
        have c6 := h2.cells.2.2.2.2.2.2.1
        rw [HS1.out] at c6
        have HM2 := K0 ((Moved.of_below HB1.out).trans m2)
        by_cases hbr : E.br < 0
        · have hf := HF.out
          rw [if_pos hbr] at hf
          obtain ⟨E5, hf5, hr⟩ := Option.bind_eq_some_iff.mp hf
          simp only [Option.some.injEq, Prod.mk.injEq] at hr
          obtain ⟨h1, h3⟩ := hr
          subst h3
          have H2 := K0 h1
          have d3 : decide (E.br < 0) = true := zqt hbr
          have c3 := h2.cells.2.2.2.1
          obtain ⟨A3, k3, e3⟩ := Kd.R_slice h2.tr
          obtain ⟨n3, hn3⟩ : ∃ n3, E.tr.length = n3 := ⟨_, rfl⟩
          rw [e3, HS2.out, hn3] at c3
          have c1' := h2.cells.2.1
          obtain ⟨A1', k1', e1'⟩ := Kd.R_slice h2.cls
          rw [e1', h2.len, HS3.out] at c1'
          have HLK := K0 (eng_look.calls (E.laid r1) B T2 p2 N w2 h2 (by rw [HS3.out]; omega) (HLL.out _ (List.getElem_mem _)) (by rw [HS2.out]; exact HBD.out.2))
          have HF5 := K0 hf5
          have HN3 := K0 hn3
          clear hf hf5 h1 hbr e3 hn3 e1' h2 m2 HCALL
          go_wp2_with fail
          refine HLK.out.mono ?_
          rintro e' w4 ⟨rfl, T4, p4, h4, m4, f4⟩
          have HM4 := K0 (HM2.out.trans m4)
          obtain ⟨l1, l2, _⟩ := (E.laid r1).look_cls N
          have HFO := K0 (eng_follow.calls k _ B T4 p4 n3 E5 w4 h4 (by unfold Eng.Lits; rw [l1]; exact HLL.out) (by rw [← HN3.out]; exact HF5.out))
          clear h4 m4 f4 l1 l2 HLK
          go_wp2_with fail
          refine HFO.out.mono ?_
          rintro e' w5 ⟨rfl, T5, p5, h5, m5, f5⟩
          have H5 := K0 h5
          have M5 := K0 (HM4.out.trans m5)
          clear h5 m5 f5 HFO
          go_wp2
          go_ret
          rw [← H2.out]
          exact ⟨rfl, T5, p5, H5.out, M5.out⟩
        · have hf := HF.out
          rw [if_neg hbr] at hf
          simp only [Option.some.injEq, Prod.mk.injEq] at hf
          obtain ⟨h1, h3⟩ := hf
          subst h3
          have H2 := K0 h1
          have d3 : decide (E.br < 0) = false := zqu hbr
          have H3 := K0 h2
          clear h1 hbr h2 m2 HCALL
          go_wp2
          go_ret
          rw [← H2.out]
          exact ⟨rfl, T2, p2, H3.out, HM2.out⟩
      · rw [if_neg hbd] at hf; cases hf
  · rw [if_pos h0] at hf
    simp only [Option.some.injEq, Prod.mk.injEq] at hf
    obtain ⟨h1, h2⟩ := hf
    subst h2
    have H2 := K0 h1
    have q1 : (e != 0) = true := by simpa using h0
    have q2 : (e == 0) = false := by simpa using h0
    clear h1 h hlit hwf hr0 h0
    go_enter Try.func65, Try.ntmps65
    go_wp2_with fail
    refine HR.out.mono ?_
    rintro e' w1 ⟨rfl, ⟨⟨n1, rfl⟩⟩⟩
    have HB1 := K0 (zqa (zqw w.heap.size w) n1)
    go_wp2
    go_ret
    rw [← H2.out]
    exact ⟨rfl, T, p, HE.out.below HB1.out, Moved.of_below HB1.out⟩
def Eng.top (E : Eng) (cl : List Int) (n : Int) : Int := cl.foldl (fun n x => mx n (E.level (vbl x))) n
def PopTo (k : Nat) (lev : Int) : Nat → Eng → Eng → Prop
  | 0, _, _ => False
  | m + 1, E, E' => if lev ≤ (E.st.length : Int) then E.Lits ∧ (∀ x ∈ E.tr, (Lit.int .i64 x).wf = true) ∧ ∃ E1 b, Eng.pop k E = some (E1, b) ∧ PopTo k lev m E1 E' else E' = E
def Sol.learns (Z : Sol) (k : Nat) (cl : List Int) (f : Int) (Z' : Sol) : Prop :=
  ∃ m E1 E2 f2, PopTo k (Z.E.top cl 0) m Z.E E1 ∧ E1.Lits ∧ (∀ x ∈ cl, (Lit.int .i64 x).wf = true) ∧ (∀ r, lit_Clean.f cl = some r → ∀ x ∈ r.1, (Lit.int .i64 x).wf = true) ∧ Eng.add k E1 cl = some (E2, f2) ∧ Z.all.length < 2199023255552 ∧
    (if f2 ≠ 0 then f = 2 else if 4096 ≤ Z.log.length then f = 2 else f = 0 ∧ Z' = { Z with E := E2, all := Z.all ++ [cl], log := Z.log ++ [⟨false, cl⟩] })
def LearnPost (w0 : World) (S B : Nat) (T : Tag) (U : Col) (f : Int) (Z' : Sol) (w w' : World) : Prop := Below w0.heap.size w0 w' ∧ (∀ g, U g = 5 → w'.heap[g]? = w.heap[g]?) ∧ (f = 0 → SolPost w0 S B T U Z' w w')
set_option maxRecDepth 100000 in
set_option maxHeartbeats 4000000 in
theorem sol_learn.calls (k : Nat) {w0 w : World} {S B : Nat} {T : Tag} {U : Col} {Z : Sol} {p : EngP} {q : SolP} (h0 : SolIn w0 w S B T U Z p q) (A : Option Addr) (c : Nat) (cl : List Int) (f : Int) (Z' : Sol) (hc : cl.length ≤ c) (hF : Kd.F (Kd.int .i64) w (fun k => T k = (0, 0) ∧ U k = 4) A cl.length cl) (hf : Z.learns k cl f Z') :
    Calls Try.prog 44 #[.pointer (some ⟨S, 0, none⟩), .slice A cl.length c] w fun e w' => e = .returned (.int .i64 f) ∧ LearnPost w0 S B T U f Z' w w' := by
  obtain ⟨m, E1, E2, f2, hpop, hlit, hcw, hcl, hadd, hall, hfin⟩ := hf
  have HS := K0 h0; have HF4 := K0 hF
  have HF := K0 (SolIn.row_ok (w0 := w0) hF)
  have HC := K0 hc; have HPOP := K0 hpop; have HLIT := K0 hlit; have HCW := K0 hcw; have HCL := K0 hcl; have HADD := K0 hadd; have HALL := K0 hall; have HFIN := K0 hfin
  have hbig := (Kd.F_now hF).2.1
  have HR := K0 (Kd.F_now hF)
  clear h0 hF hc hpop hlit hcw hcl hadd hall hfin
  go_enter Try.func44, Try.ntmps44
  go_wp2
  go_loopg [5, 11] cl.length (fun gg v5 v11 wr => ∃ (j : Nat) (n : Int), v11 = .int .i64 (j : Int) ∧ v5 = .int .i64 n ∧ Aside0 (j + gg = cl.length) ∧ Aside0 (Below w.heap.size w wr) ∧ Aside0 (Z.E.top (cl.drop j) n = Z.E.top cl 0))
  case atStart => exact ⟨0, 0, rfl, rfl, ⟨by simp⟩, ⟨zqw _ _⟩, ⟨rfl⟩⟩
  case round =>
    obtain ⟨j, n, rfl, rfl, hg, HB, HT⟩ := hrel
    by_cases hlt : j < cl.length
    case neg =>
      have hd2 : decide ((j : Int) < (cl.length : Int)) = false := zqu (by omega)
      have Q2 : (j < cl.length) = False := eq_false hlt
      have ht := HT.out
      rw [List.drop_of_length_le (by omega)] at ht
      obtain ⟨lev, hlev⟩ : ∃ lev, Z.E.top cl 0 = lev := ⟨_, rfl⟩
      have ht2 : n = lev := ht.trans hlev
      subst ht2
      rw [hlev] at HPOP
      have HS1 := K0 (HS.out.below HB.out)
      have HM1 := K0 (MovedS.of_below (T := T) (U := U) HB.out)
      clear ht hlev HT HR
      go_wp2
      go_loopg [] m (fun gg wr2 => ∃ (m2 : Nat) (E3 : Eng) (T3 : Tag) (p3 : EngP), Aside0 (m2 = gg) ∧ Aside0 (SolIn w0 wr2 S B T3 U { Z with E := E3 } p3 q) ∧ Aside0 (MovedS T U T3 U w wr2) ∧ Aside0 (PopTo k n m2 E3 E1))
      case atStart => exact ⟨m, Z.E, T, p, ⟨rfl⟩, HS1, HM1, HPOP⟩
      case round =>
        clear HS1 HM1 HPOP
        obtain ⟨m2, E3, T3, p3, HGG, HS1, HM1, HPOP⟩ := hrel
        have c0 := HS1.out.cells.1
        have hpop := HPOP.out
        cases m2 with
        | zero => exact hpop.elim
        | succ gk =>
          unfold PopTo at hpop
          by_cases hle : n ≤ (E3.st.length : Int)
          case pos =>
            rw [if_pos hle] at hpop
            obtain ⟨p1, p2, E4, b, p4, p5⟩ := hpop
            have dl : decide (n ≤ (E3.st.length : Int)) = true := zqt hle
            have HCALL := K0 (eng_Pop.calls k E3 B T3 p3 E4 b _ HS1.out.e p1 p2 p4)
            have HP5 := K0 p5; clear p1 p2 p4 p5 hle HPOP
            go_wp2_with fail
            refine (eng_Levels.calls E3 B T3 p3 _ HS1.out.e).mono ?_
            rintro e' w5 ⟨rfl, rfl⟩
            go_wp2_with fail
            refine HCALL.out.mono ?_
            rintro e' w6 ⟨rfl, T6, p6, h6, m6, f6⟩
            obtain ⟨s6, n6⟩ := HS1.out.moved h6 m6
            have HS6 := K0 s6
            have HM6 := K0 (HM1.out.trans n6)
            clear h6 m6 f6 s6 n6 HCALL c0 HS1 HM1
            go_wp2
            go_roundg gk
            case measure => have := HGG.out; omega
            case rel => exact ⟨gk, E4, T6, p6, ⟨rfl⟩, HS6, HM6, HP5⟩
          rw [if_neg hle] at hpop
          have dl : decide (n ≤ (E3.st.length : Int)) = false := zqu hle
          subst hpop; clear hle HPOP
          go_wp2_with fail
          refine (eng_Levels.calls E1 B T3 p3 _ HS1.out.e).mono ?_
          rintro e' w5 ⟨rfl, rfl⟩
          have hF5 := HS.out.row_moved HM1.out HF.out
          have HCALL := K0 (eng_Add.calls k E1 B T3 p3 A c cl E2 f2 _ HS1.out.e (Kd.F_now hF5) HC.out HLIT.out HCL.out HADD.out)
          clear hF5
          go_wp2_with fail
          refine HCALL.out.mono ?_
          rintro e' w6 ⟨rfl, T6, p6, h6, m6⟩
          obtain ⟨s6, n6⟩ := HS1.out.moved h6 m6
          have HS6 := K0 s6
          have HM6 := K0 (HM1.out.trans n6)
          clear h6 m6 s6 n6 HCALL c0 HS1 HM1 HADD
          have hfin := HFIN.out
          by_cases hf2 : f2 = 0
          case neg =>
            rw [if_pos hf2] at hfin
            have q2 : (f2 != 0) = true := by simpa using hf2
            subst hfin; clear hf2
            go_wp2
            go_ret
            exact ⟨rfl, HS6.out.old, HM6.out.keeps HS.out, fun h => absurd h (by decide)⟩
          rw [if_neg (by rw [hf2]; decide)] at hfin
          have q2 : (f2 != 0) = false := by rw [hf2]; rfl
          have hF6 := HS.out.row_moved HM6.out HF.out
          have HF6 := K0 hF6
          obtain ⟨AA, kA, eA⟩ := Kd.R_slice HS6.out.all
          have c2 := HS6.out.cells.2.2.1
          have hRA := HS6.out.all
          rw [eA] at c2 hRA
          have HEA := K0 eA; have HRA := K0 hRA
          have HLN := K0 (show (q.hs.length + 1) * 24 ≤ 140737488355328 by have := HS6.out.len; have := HALL.out; simp only at *; omega)
          have HFIN2 := K0 hfin
          have HS3 := K0 (show some S ≠ (Value.slice AA q.hs.length kA).ownBlock from fun e => by have := (HS6.out.all.1 S (by rw [HEA.out]; exact e.symm)).2; rw [HS6.out.uS] at this; cases this)
          clear hf2 hfin HFIN hF6 eA hRA
          go_wp2_with (at_builtin; refine Kd.R_append kH (w0 := w6) (W := w6) 0 rfl (.tmp 49) (.tmp 51) 22 25 (.slice none 0 0) 24 rfl Try.underlying22 (by kernel_rfl) rfl (by decide) (by decide) (.slice AA q.hs.length kA) q.hs ((A, cl.length, c) : Hd) [.slice A cl.length c] (fun k => (T6 k = (0, 0) ∧ U k = 1) ∨ w6.heap.size ≤ k) (fun _ => False) rfl rfl rfl (fun _ h => h.elim) (fun k hk => .inr hk) (Kd.R_mono HRA.out (fun _ hk => .inl hk)) (zqw _ _) (Nat.zero_le _) HLN.out ?_; intro v7 w7 r7 hb7 hg7 hat7; obtain ⟨A7, k7, e7⟩ := Kd.R_slice r7; subst e7; have H7 := K0 (HS6.out.turn_all (hd := (A, cl.length, c)) (c := cl) ⟨rfl, HC.out, HF6.out⟩ r7 (by rw [HEA.out]; exact hg7) (by rw [HEA.out]; exact hat7)); have c71 := (zql (blk_grown HS6.out.blk hg7 HS3.out) 2); have f71 := (zqm (blk_grown HS6.out.blk hg7 HS3.out) 2); replace c71 := c71.trans (show _ = some q.vA from rfl); rw [HEA.out] at c71; clear r7 hb7 hg7 hat7)
          obtain ⟨W8, hW8⟩ : ∃ W8, w7.setCell ⟨S, 2, none⟩ (.slice A7 (q.hs.length + 1) k7) = W8 := ⟨_, rfl⟩
          have h7 := H7.out
          simp only [List.length_append, List.length_singleton] at h7
          rw [hW8] at h7 ⊢
          have HS8 := K0 h7.1
          have HM8 := K0 (HM6.out.trans h7.2)
          have HF8 := K0 (SolIn.row_moved4 HM8.out HF4.out)
          clear h7 H7 hW8 c2 HF6
          have hfin := HFIN2.out
          by_cases hl : 4096 ≤ Z.log.length
          case pos =>
            rw [if_pos hl] at hfin
            subst hfin
            go_wp2_with fail
            refine (sol_put.full HS8.out (.slice A cl.length c) hl).mono ?_
            rintro e' w9 ⟨rfl, rfl⟩
            go_wp2
            go_ret
            exact ⟨rfl, HS8.out.old, HM8.out.keeps HS.out, fun h => absurd h (by decide)⟩
          rw [if_neg hl] at hfin
          obtain ⟨hf0, hz⟩ := hfin
          subst hf0; have HZ := K0 hz
          have HCALL := K0 (sol_put.calls HS8.out A c cl HC.out HF8.out (Nat.lt_of_not_le hl))
          clear hz hl
          go_wp2_with fail
          refine HCALL.out.mono ?_
          rintro e' w9 ⟨rfl, hp⟩
          have HP9 := K0 hp; clear hp HCALL
          go_wp2
          go_ret
          obtain ⟨T9, U9, p9, q9, s9, m9, _⟩ := HP9.out
          exact ⟨rfl, s9.old, (HM8.out.trans m9).keeps HS.out, fun _ => ⟨T9, U9, p9, q9, by rw [HZ.out]; exact s9, HM8.out.trans m9⟩⟩
    obtain ⟨ad2, e2, x2⟩ := Kd.at_int (Kd.C_below HR.out HB.out) (j : Int) (by omega) (by omega)
    cases e2
    obtain ⟨y, hy⟩ : ∃ y, cl[j] = y := ⟨_, rfl⟩
    have hrd : rd cl (j : Int) = y := by simp [rd, hlt, hy]
    rw [hrd] at x2
    simp only [Int.toNat_natCast] at x2
    have Q0 : ((0 : Int) ≤ (j : Int)) = True := eq_true (by omega)
    have Q1 : ((j : Int) < (cl.length : Int)) = True := eq_true (by omega)
    have Q2 : (j < cl.length) = True := eq_true hlt
    have hd2 : decide ((j : Int) < (cl.length : Int)) = true := zqt (by omega)
    have HYW := K0 (HCW.out y (by rw [← hy]; exact List.getElem_mem hlt))
    have ht := HT.out
    rw [List.drop_eq_getElem_cons hlt, hy] at ht
    have HT2 := K0 (show Z.E.top (cl.drop (j + 1)) (mx n (Z.E.level (vbl y))) = Z.E.top cl 0 from ht)
    clear hy hrd ht HT
    go_upto_region 5 with fail
    have hdr : Below w.heap.size w wr.drew := zqo HB.out (below_drew (zqw _ _))
    have d0 := (HS.out.below HB.out).cells.1
    have dE := (HS.out.below hdr).e
    refine start_ (n := 10) (S := fun w' => w'.cell? ⟨S, 0, none⟩ = some (.pointer (some ⟨B, 0, none⟩)) ∧ EngIn w' B T Z.E p ∧ Below w.heap.size w w') (ds := []) #[false, false, false, false, false, false, false, false, false, false] (by kernel_rfl) rfl rfl ⟨d0, dE, hdr⟩ (fun hHeld => ?_)
    refine pure_ (i := 0) (N := some 15) (v := ?_) (a' := ?_) #[true, false, false, false, false, false, false, false, false, false] rfl rfl (by kernel_rfl) (fun _ _ _ h => h) (Or.inl ⟨by rfl, ?_⟩) ?_ ?_
    rotate_left
    · intro w'
      go_simp
      with_reducible rfl
    rotate_left
    · simp only [Act.put, zqf, zqg, zqh, i64_w, i32_w]
      rfl
    refine pure_ (i := 1) (N := some 16) (v := ?_) (a' := ?_) #[true, true, false, false, false, false, false, false, false, false] rfl rfl (by kernel_rfl) (fun _ _ _ h => h) (Or.inl ⟨by rfl, ?_⟩) ?_ ?_
    rotate_left
    · intro w'
      go_simp
      with_reducible rfl
    rotate_left
    · simp only [Act.put, zqf, zqg, zqh, i64_w, i32_w]
      rfl
    refine pure_ (i := 2) (N := some 17) (v := ?_) (a' := ?_) #[true, true, true, false, false, false, false, false, false, false] rfl rfl (by kernel_rfl) (fun _ _ _ h => h) (Or.inl ⟨by rfl, ?_⟩) ?_ ?_
    rotate_left
    · intro w'
      go_simp
      with_reducible rfl
    rotate_left
    · simp only [Act.put, zqf, zqg, zqh, i64_w, i32_w]
      rfl
    refine pure_ (i := 3) (N := some 18) (v := ?_) (a' := ?_) #[true, true, true, true, false, false, false, false, false, false] rfl rfl (by kernel_rfl) (fun _ _ _ h => h) (Or.inl ⟨by rfl, ?_⟩) ?_ ?_
    rotate_left
    · intro w'
      go_simp
      with_reducible rfl
    rotate_left
    · simp only [Act.put, zqf, zqg, zqh, i64_w, i32_w]
      rfl
    refine pure_ (i := 5) (N := some 20) (v := ?_) (a' := ?_) #[true, true, true, true, false, true, false, false, false, false] rfl rfl (by kernel_rfl) (fun _ _ _ h => h) (Or.inl ⟨by rfl, ?_⟩) ?_ ?_
    rotate_left
    · intro w'
      go_simp
      with_reducible rfl
    rotate_left
    · simp only [Act.put, zqf, zqg, zqh, i64_w, i32_w]
      rfl
    refine take_ (i := 4) (N := some 19) (v := ?_) (a' := ?_) #[true, true, true, true, true, true, false, false, false, false] rfl rfl (by kernel_rfl) (fun _ _ _ h => h) (Or.inl ⟨by rfl, ?_⟩) hHeld ?_ ?_
    rotate_left
    · rintro w' ⟨s0, s1, s2⟩
      go_simp
      with_reducible rfl
    rotate_left
    · simp only [Act.put, zqf, zqg, zqh, i64_w, i32_w]
      rfl
    refine one_ (i := 6) (N := some 21) #[true, true, true, true, true, true, true, false, false, false] rfl rfl (by kernel_rfl) (by decide) (fun K hK => ?_)
    refine goes_ Try.func62 (by kernel_rfl) rfl #[.int .i64 y] (by rfl) rfl rfl (by simp only [List.map_toArray, List.map_cons, List.map_nil]; rfl) ?_
    with_reducible refine (solve_variable.calls y (vbl y) _ rfl).mono ?_
    rintro e' w3 ⟨rfl, hb3⟩
    refine ⟨_, rfl, ?_⟩
    refine hK.out _ _ ⟨pw_cell_below hb3 hHeld.1, hHeld.2.1.below hb3, zqo hHeld.2.2 hb3⟩ (fun hHeld => ?_)
    clear hK K
    refine norm_ (a' := ?_) ?_ ?_
    rotate_left
    · show Act.put _ (some 21) _ = _
      simp only [Act.put, zqf, zqg, zqh, i64_w, i32_w]
      rfl
    refine one_ (i := 7) (N := some 22) #[true, true, true, true, true, true, true, true, false, false] rfl rfl (by kernel_rfl) (by decide) (fun K hK => ?_)
    refine goes_ Try.func61 (by kernel_rfl) rfl #[.pointer (some ⟨B, 0, none⟩), .int .i64 (vbl y)] (by rfl) rfl rfl (by simp only [List.map_toArray, List.map_cons, List.map_nil]; rfl) ?_
    with_reducible refine (eng_Level.calls Z.E B T p (vbl y) _ hHeld.2.1 (vbl_wf HYW.out)).mono ?_
    rintro e' w4 ⟨rfl, hb4⟩
    refine ⟨_, rfl, ?_⟩
    refine hK.out _ _ ⟨pw_cell_below hb4 hHeld.1, hHeld.2.1.below hb4, zqo hHeld.2.2 hb4⟩ (fun hHeld => ?_)
    clear hK K
    refine norm_ (a' := ?_) ?_ ?_
    rotate_left
    · show Act.put _ (some 22) _ = _
      simp only [Act.put, zqf, zqg, zqh, i64_w, i32_w]
      rfl
    refine pure_ (i := 8) (N := some 23) (v := ?_) (a' := ?_) #[true, true, true, true, true, true, true, true, true, false] rfl rfl (by kernel_rfl) (fun _ _ _ h => h) (Or.inl ⟨by rfl, ?_⟩) ?_ ?_
    rotate_left
    · intro w'
      go_simp
      with_reducible rfl
    rotate_left
    · simp only [Act.put, zqf, zqg, zqh, i64_w, i32_w]
      rfl
    refine pure_ (i := 9) (N := some 5) (v := ?_) (a' := ?_) #[true, true, true, true, true, true, true, true, true, true] rfl rfl (by kernel_rfl) (fun _ _ _ h => h) (Or.inl ⟨by rfl, ?_⟩) ?_ ?_
    rotate_left
    · intro w'
      go_simp
      with_reducible rfl
    rotate_left
    · simp only [Act.put, zqf, zqg, zqh, i64_w, i32_w]
      rfl
    refine done_ (by kernel_rfl) ?_
    clear d0 dE hdr
    have HB2 := K0 hHeld.2.2
    clear hHeld
    go_wp2
    all_goals
      go_roundg (cl.length - (j + 1))
      case measure => have := hg.out; omega
      case rel => exact ⟨j + 1, mx n (Z.E.level (vbl y)), by simp, by unfold mx; first | rw [if_pos (by omega)] | rw [if_neg (by omega)], ⟨by have := hg.out; omega⟩, HB2, HT2⟩
def Sol.runs (k m : Nat) : Nat → Sol → Found → Prop
  | 0, _, _ => False
  | i + 1, Z, r => (∀ c ∈ Z.all, ∀ x ∈ c, (Lit.int .i64 x).wf = true) ∧ Z.E.Lits ∧ (Lit.int .i64 Z.next.1).wf = true ∧
      (if 0 ≤ Z.E.br then ∃ bl, Z.blamed m 0 = some bl ∧ (if Z.stepped.steps ≤ Z.fuel then (∀ x ∈ bl, slices_Contains_int_int.f k Z.asm x = some (decide (x ∈ Z.asm))) ∧
          (if Z.stepped.assumed bl = true then ∃ cl, Z.stepped.ends k bl 0 cl ∧ endFound Z.stepped cl bl 0 = r
            else ∃ ol f Z2, solve_opposites.f k bl = some ol ∧ Z.stepped.learns k ol f Z2 ∧ (if f ≠ 0 then r = Found.bad f 0 else Sol.runs k m i Z2 r)) else r = Found.bad 9 Z.fuel)
      else if Z.next.2 = false then (if Z.stepped.steps ≤ Z.fuel then ∃ bl, Z.stepped.blamed m Z.next.1 = some bl ∧ ∃ cl, Z.stepped.ends k bl Z.next.1 cl ∧ endFound Z.stepped cl bl Z.next.1 = r else r = Found.bad 9 Z.fuel)
      else if Z.next.1 = 0 then r = ⟨0, true, Z.values, [], Z.steps, []⟩
      else if Z.stepped.steps ≤ Z.fuel then ∃ E2 b, Eng.push k Z.E Z.next.1 = some (E2, b) ∧ Sol.runs k m i { Z.stepped with E := E2 } r else r = Found.bad 9 Z.fuel)
theorem learns_same {Z Z' : Sol} {k : Nat} {cl : List Int} (h : Z.learns k cl 0 Z') : Z'.asm = Z.asm ∧ Z'.n = Z.n := by
  obtain ⟨m, E1, E2, f2, _, _, _, _, _, _, h⟩ := h
  split at h
  · cases h
  split at h
  · cases h
  rw [h.2]; exact ⟨rfl, rfl⟩
def K5 (U0 : Col) (w : World) (U : Col) (W : World) : Prop := ∀ g, U0 g = 5 → U g = 5 ∧ W.heap[g]? = w.heap[g]? ∧ g < w.heap.size ∧ g < W.heap.size
theorem K5.lt {W W' : World} {g : Nat} (h : W'.heap[g]? = W.heap[g]?) (hg : g < W.heap.size) : g < W'.heap.size := by
  by_cases h2 : g < W'.heap.size
  case pos =>
    exact h2
  rw [Array.getElem?_eq_none (by omega), Array.getElem?_eq_getElem hg] at h
  cases h
theorem K5.recolor {U0 U U' : Col} {w W W' : World} (h : K5 U0 w U W) (hk : ∀ g, U g = 5 → U' g = 5 ∧ W'.heap[g]? = W.heap[g]?) : K5 U0 w U' W' := fun g hg =>
  ⟨(hk g (h g hg).1).1, (hk g (h g hg).1).2.trans (h g hg).2.1, (h g hg).2.2.1, K5.lt (hk g (h g hg).1).2 (h g hg).2.2.2⟩
theorem K5.keeps {U0 U : Col} {w W W' : World} (h : K5 U0 w U W) (hk : ∀ g, U g = 5 → W'.heap[g]? = W.heap[g]?) : K5 U0 w U W' := h.recolor fun g hg => ⟨hg, hk g hg⟩
theorem K5.below {U0 U : Col} {w W W' : World} (h : K5 U0 w U W) (hb : Below W.heap.size W W') : K5 U0 w U W' := fun g hg =>
  ⟨(h g hg).1, (hb.block g (h g hg).2.2.2).trans (h g hg).2.1, (h g hg).2.2.1, Nat.lt_of_lt_of_le (h g hg).2.2.2 hb.size⟩
theorem K5.out {U0 U : Col} {w W : World} {g2 : Nat} (h : K5 U0 w U W) (hg2 : w.heap.size ≤ g2) (v0 v1 v2 v3 : Value) : ∀ g, U0 g = 5 → (put4 W g2 v0 v1 v2 v3).heap[g]? = w.heap[g]? := fun g hg =>
  (put4_far v0 v1 v2 v3 g (fun e => by have := (h g hg).2.2.1; omega)).trans (h g hg).2.1
theorem K5.okU {w0 : World} {U0 U : Col} {w W : World} (h : K5 U0 w U W) : ∀ k, P.okU w0 U k → P.okU w0 U0 k := fun k hk => ⟨hk.1, fun e => hk.2 (h k e).1⟩
theorem K5.ok {U0 U : Col} {w W : World} (h : K5 U0 w U W) : ∀ k, U k ≠ 5 → U0 k ≠ 5 := fun k hk e => hk (h k e).1
set_option maxRecDepth 100000 in
set_option maxHeartbeats 16000000 in
theorem sol_run.calls (k m i : Nat) {w0 w : World} {S B : Nat} {T : Tag} {U0 : Col} {Z : Sol} {p : EngP} {q : SolP} (r : Found) (h0 : SolIn w0 w S B T U0 Z p q) (hasm : ∀ l ∈ Z.asm, (Lit.int .i64 l).wf = true) (hn : 0 ≤ Z.n ∧ Z.n ≤ 1024) (hf : Z.runs k m i r) :
    Calls Try.prog 27 #[.pointer (some ⟨S, 0, none⟩)] w fun e w' => FoundIn w0 w U0 r e w' := by
  have hu33 := Try.underlying33
  have eg := enters_of Try.func37 (by kernel_rfl) rfl
  obtain ⟨W1, hW1⟩ : ∃ W1, w.alloc (.cells #[.pointer (some ⟨S, 0, none⟩)] 54) = W1 := ⟨_, rfl⟩
  obtain ⟨W2, hW2⟩ : ∃ W2, W1.alloc (.cells #[.bool false, .slice none 0 0, .slice none 0 0, .int .i64 0] 33) = W2 := ⟨_, rfl⟩
  obtain ⟨g1, hg1⟩ : ∃ g, w.heap.size = g := ⟨_, rfl⟩
  have hs1 : W1.heap.size = g1 + 1 := by rw [← hW1, ← hg1]; simp
  obtain ⟨g2, hg2⟩ : ∃ g, g1 + 1 = g := ⟨_, rfl⟩
  have hs2 : W2.heap.size = g2 + 1 := by rw [← hW2, ← hg2]; simp [hs1]
  have b1 : Below w.heap.size w W1 := by rw [← hW1]; exact zqb (zqw _ _) _
  have b2 : Below W1.heap.size W1 W2 := by rw [← hW2]; exact zqb (zqw _ _) _
  have n1 := blk_new w (.cells #[.pointer (some ⟨S, 0, none⟩)] 54)
  have n2 := blk_new W1 (.cells #[.bool false, .slice none 0 0, .slice none 0 0, .int .i64 0] 33)
  rw [hW1, hg1] at n1
  rw [hW2, hs1, hg2] at n2
  have hsz := h0.old.size
  have t1 := h0.e.fresh g1 (by omega)
  have t2 := h0.e.fresh g2 (by omega)
  have u1 := h0.fresh g1 (by omega)
  have u2 := h0.fresh g2 (by omega)
  have HX1 := K0 (zqn n1 b2)
  have HX2 := K0 n2
  have hs := (((h0.below b1).below b2).own5 g1 (by omega) (by omega) u1 t1).own5 g2 (by omega) (by omega) (show (if g2 = g1 then 5 else U0 g2) = 0 by rw [if_neg (by omega)]; exact u2) t2
  obtain ⟨U', q', HS, HU, HK⟩ : ∃ (U' : Col) (q' : SolP), Aside0 (SolIn w0 W2 S B T U' Z p q') ∧ Aside0 (T g1 = (0, 0) ∧ U' g1 = 5 ∧ T g2 = (0, 0) ∧ U' g2 = 5) ∧ Aside0 (K5 U0 w U' W2) := ⟨_, _, ⟨hs⟩, ⟨t1, by
    show (if g1 = g2 then 5 else if g1 = g1 then 5 else U0 g1) = 5
    rw [if_neg (by omega), if_pos rfl], t2, if_pos rfl⟩, ⟨fun g hg => by
    have hlt : g < w.heap.size := Nat.lt_of_not_le fun hle => by have := h0.fresh g hle; rw [hg] at this; cases this
    refine ⟨?_, (b2.block g (Nat.lt_of_lt_of_le hlt b1.size)).trans (b1.block g hlt), hlt, Nat.lt_of_lt_of_le hlt (Nat.le_trans b1.size b2.size)⟩
    show (if g = g2 then 5 else if g = g1 then 5 else U0 g) = 5
    split
    · rfl
    · split
      · rfl
      exact hg⟩⟩
  have HF := K0 hf; have HAS := K0 hasm; have HNN := K0 hn
  have HGE := K0 (show w0.heap.size ≤ g1 ∧ w0.heap.size ≤ g2 by omega)
  have HGW := K0 (show w.heap.size ≤ g2 by omega)
  have hg3 : W1.heap.size = g2 := by rw [hs1, hg2]
  clear h0 hf hasm hn hs t1 t2 u1 u2 n1 n2 b1 b2 hs1 hs2 hsz
  go_enter Try.func27, Try.ntmps27
  go_wp2
  go_step3
  go_wp2
  go_step3
  go_wp2
  clear hg3 hg1 hg2 hW1 hW2
  go_loopg [] i (fun gg wr => ∃ (i2 : Nat) (T2 : Tag) (U2 : Col) (Z2 : Sol) (p2 : EngP) (q2 : SolP), Aside0 (i2 = gg) ∧ Aside0 (SolIn w0 wr S B T2 U2 Z2 p2 q2) ∧ Aside0 (T2 g1 = (0, 0) ∧ U2 g1 = 5 ∧ T2 g2 = (0, 0) ∧ U2 g2 = 5) ∧ Aside0 (K5 U0 w U2 wr) ∧ Aside0 (wr.heap[g1]? = some (.cells #[.pointer (some ⟨S, 0, none⟩)] 54 (0, 0))) ∧ Aside0 (wr.heap[g2]? = some (.cells #[.bool false, .slice none 0 0, .slice none 0 0, .int .i64 0] 33 (0, 0))) ∧ Aside0 (Z2.runs k m i2 r) ∧ Aside0 (∀ l ∈ Z2.asm, (Lit.int .i64 l).wf = true) ∧ Aside0 (0 ≤ Z2.n ∧ Z2.n ≤ 1024))
  case atStart => exact ⟨i, T, U', Z, p, q', ⟨rfl⟩, HS, HU, HK, HX1, HX2, HF, HAS, HNN⟩
  case round =>
    clear HS HU HK HX1 HX2 HF HAS HNN
    obtain ⟨i2, T, U, Z, p, q, HI, HS, HU, HK, HX1, HX2, HF, HAS, HNN⟩ := hrel
    have hf := HF.out
    cases i2 with
    | zero => exact hf.elim
    | succ i2 =>
      unfold Sol.runs at hf
      obtain ⟨hlit, hlits, hlw, hf⟩ := hf
      have HLIT := K0 hlit; have HLITS := K0 hlits; have HLW := K0 hlw
      have c1 : wr.cell? ⟨g1, 0, none⟩ = some (.pointer (some ⟨S, 0, none⟩)) := (zql HX1.out 0).trans rfl
      have HNX := K0 (sol_next.calls HS.out HAS.out HNN.out)
      obtain ⟨l, hl⟩ : ∃ l, Z.next.1 = l := ⟨_, rfl⟩
      obtain ⟨op, hop⟩ : ∃ op, Z.next.2 = op := ⟨_, rfl⟩
      rw [hl] at HLW HNX hf
      rw [hop] at HNX hf
      have HFF := K0 hf; clear hlit hlits hlw hf HF hl hop
      go_wp2_with fail
      refine HNX.out.mono ?_
      rintro e' w3 ⟨rfl, hb3⟩
      have HS3 := K0 (HS.out.below hb3)
      have HX13 := K0 (zqn HX1.out hb3)
      have HX23 := K0 (zqn HX2.out hb3)
      have HK3 := K0 (HK.out.below hb3)
      have c1 : w3.cell? ⟨g1, 0, none⟩ = some (.pointer (some ⟨S, 0, none⟩)) := (zql HX13.out 0).trans rfl
      have c0 := HS3.out.cells.1
      clear hb3 HS HX1 HX2 HK HNX
      have hf := HFF.out
      by_cases hbr : 0 ≤ Z.E.br
      case pos =>
        rw [if_pos hbr] at hf
        obtain ⟨bl, hbl, hf⟩ := hf
        have db : decide ((0 : Int) ≤ Z.E.br) = true := zqt hbr
        have HBC := K0 (sol_blamed.calls HS3.out HLIT.out m 0 bl (by decide) hbl)
        have HF2 := K0 hf; clear hbr hbl hf HFF
        go_wp2_with fail
        refine (eng_Broken.calls Z.E B T p _ HS3.out.e).mono ?_
        rintro e' w3' ⟨rfl, rfl⟩
        go_wp2_with fail
        refine HBC.out.mono ?_
        rintro e' w4 ⟨v4, rfl, r4, hb4⟩
        have HR4 := K0 (show Kd.R (Kd.int .i64) 3 w4 w0.heap.size (fun k => T k = (0, 0) ∧ U k = 0) v4 bl from Kd.R_of_own (Kd.own_of_R (Kd.R_lower r4 HS3.out.old.size)) (fun k hk => ⟨HS3.out.e.fresh k (Kd.R_base r4 k hk), HS3.out.fresh k (Kd.R_base r4 k hk)⟩))
        have HS4 := K0 (HS3.out.below hb4)
        have HX14 := K0 (zqn HX13.out hb4)
        have HX24 := K0 (zqn HX23.out hb4)
        have HK4 := K0 (HK3.out.below hb4)
        have c1 : w4.cell? ⟨g1, 0, none⟩ = some (.pointer (some ⟨S, 0, none⟩)) := (zql HX14.out 0).trans rfl
        obtain ⟨A8, c8, e8⟩ := Kd.R_slice r4
        subst e8; clear r4 hb4 HS3 HX13 HX23 HK3 HBC c0
        go_wp2_with fail
        refine (sol_step.calls HS4.out).mono ?_
        rintro e' w5 ⟨rfl, s5, m5⟩
        have HS5 := K0 s5
        have HX15 := K0 ((m5.same g1 (blk_lt HX14.out) HU.out.1 (by rw [HU.out.2.1]; decide)).trans HX14.out)
        have HX25 := K0 ((m5.same g2 (blk_lt HX24.out) HU.out.2.2.1 (by rw [HU.out.2.2.2]; decide)).trans HX24.out)
        have HK5 := K0 (HK4.out.keeps (m5.keeps HS4.out))
        have HR5 := K0 (Kd.R_step HR4.out (fun k hk hl => m5.same k hl hk.1 (by rw [hk.2]; decide)))
        have c1 : w5.cell? ⟨g1, 0, none⟩ = some (.pointer (some ⟨S, 0, none⟩)) := (zql HX15.out 0).trans rfl
        clear s5 m5 HS4 HX14 HX24 HK4 HR4
        have hf := HF2.out
        by_cases hst : Z.stepped.steps ≤ Z.fuel
        case neg =>
          rw [if_neg hst] at hf
          have ds : decide (Z.stepped.steps ≤ Z.fuel) = false := zqu hst
          have HRE := K0 hf; clear hst hf HF2
          go_wp2_with fail
          refine (sol_out.calls HS5.out g1 ((zql HX15.out 0).trans rfl)).mono ?_
          rintro e' w8 ⟨rfl, hb8⟩
          have hx8 := zqn HX25.out hb8
          have HO8 := K0 (zqo HS5.out.old hb8)
          have HB58 := K0 hb8
          have e0 := zql hx8 0
          have e1 := zql hx8 1
          have e2 := zql hx8 2
          have e3 := zql hx8 3
          have y0 := zqm hx8 0
          have y1 := zqm hx8 1
          have y2 := zqm hx8 2
          have y3 := zqm hx8 3
          have HB8 := K0 (put4_facts hx8 (.bool false) (.slice none 0 0) (.slice none 0 0) (.int .i64 Z.stepped.fuel)).2.2.2.2
          have HP8 := K0 (put4_below HO8.out HGE.out.2 (.bool false) (.slice none 0 0) (.slice none 0 0) (.int .i64 Z.stepped.fuel))
          clear hx8 hb8 HS5 HX15 HX25
          go_wp2
          try simp only [Exit.inBlock, Exit.then, Exit.noGoto_ret]
          refine bodyPost_ret (results_cell3 rfl _ _ g2 _ _ _ _ rfl HB8.out hu33 rfl (by kernel_rfl)) rfl ?_
          exact ⟨HP8.out, (HK5.out.below HB58.out).out HGW.out _ _ _ _, _, _, _, by rw [HRE.out]; rfl, by rw [HRE.out]; exact Kd.R_nil _ _ _ _ _, by rw [HRE.out]; exact Kd.N_nil _ _ _ _ _, by rw [HRE.out]; exact Kd.R_nil _ _ _ _ _⟩
        rw [if_pos hst] at hf
        obtain ⟨hcon, hf⟩ := hf
        have ds : decide (Z.stepped.steps ≤ Z.fuel) = true := zqt hst
        have HAC := K0 (sol_assumed.calls k HS5.out A8 c8 bl (Kd.R_reads' HR5.out).2.2 hcon)
        have HF3 := K0 hf; clear hst hcon hf HF2
        go_wp2_with fail
        refine HAC.out.mono ?_
        rintro e' w6 ⟨rfl, hb6⟩
        have HS6 := K0 (HS5.out.below hb6)
        have HX16 := K0 (zqn HX15.out hb6)
        have HX26 := K0 (zqn HX25.out hb6)
        have HK6 := K0 (HK5.out.below hb6)
        have HR6 := K0 (Kd.R_below HR5.out hb6)
        have c1 : w6.cell? ⟨g1, 0, none⟩ = some (.pointer (some ⟨S, 0, none⟩)) := (zql HX16.out 0).trans rfl
        clear hb6 HS5 HX15 HX25 HK5 HR5 HAC
        obtain ⟨Z1, hZ1⟩ : ∃ Z1, Z.stepped = Z1 := ⟨_, rfl⟩
        have hz1 : Z1.asm = Z.asm ∧ Z1.n = Z.n := by rw [← hZ1]; exact ⟨rfl, rfl⟩
        have HZ1 := K0 hz1
        rw [hZ1] at HF3 HS6 ⊢
        clear hZ1 hz1
        have hf := HF3.out
        cases has : Z1.assumed bl with
        | true =>
          rw [if_pos has] at hf
          obtain ⟨cl, hends, hrs⟩ := hf
          have HEC := K0 (sol_end.run k HS6.out A8 c8 bl 0 cl r HR6.out hends hrs)
          clear has hends hrs HF3
          go_wp2_with fail
          refine HEC.out.mono ?_
          rintro e' w7 ⟨ho4, hx4, vV, vL, vN, rfl, rV, rL, rN⟩
          have HX4K := K0 hx4
          have hx8 := (hx4 g2 HU.out.2.2.2).trans HX26.out
          obtain ⟨AV, cV, eV⟩ := Kd.R_slice rV
          obtain ⟨AL, cL, eL⟩ := Kd.N_slice rL
          obtain ⟨AN, cN, eN⟩ := Kd.R_slice rN
          subst eV eL eN
          have e0 := zql hx8 0
          have e1 := zql hx8 1
          have e2 := zql hx8 2
          have e3 := zql hx8 3
          have y0 := zqm hx8 0
          have y1 := zqm hx8 1
          have y2 := zqm hx8 2
          have y3 := zqm hx8 3
          have HB8 := K0 (put4_facts hx8 (.bool r.sat) (.slice AV r.vals.length cV) (.slice AL r.log.length cL) (.int .i64 r.steps)).2.2.2.2
          have HP8 := K0 (put4_below ho4 HGE.out.2 (.bool r.sat) (.slice AV r.vals.length cV) (.slice AL r.log.length cL) (.int .i64 r.steps))
          have hfar := put4_far (w := w7) (g := g2) (.bool r.sat) (.slice AV r.vals.length cV) (.slice AL r.log.length cL) (.int .i64 r.steps)
          have hne : ∀ k, U k ≠ 5 → k ≠ g2 := fun k hk e => hk (by rw [e]; exact HU.out.2.2.2)
          have HV8 := K0 (Kd.R_mono (Kd.R_step rV (fun k hk _ => hfar k (hne k hk.2))) HK6.out.okU (ok' := okU w0 U0))
          have HL8 := K0 (Kd.N_mono (Kd.N_step rL (fun k hk _ => hfar k (hne k hk.1.1.2))) (fun k hk => ⟨⟨HK6.out.okU k hk.1.1, hk.1.2⟩, hk.2⟩) (ok' := fun k => (okU w0 U0 k ∧ some k ≠ (Value.slice AN r.need.length cN).ownBlock) ∧ some k ≠ (Value.slice AV r.vals.length cV).ownBlock))
          have HN8 := K0 (Kd.R_mono (Kd.R_step rN (fun k hk _ => hfar k (hne k hk.2))) HK6.out.okU (ok' := okU w0 U0))
          clear hx8 hx4 ho4 rV rL rN hfar hne HEC
          go_wp2
          try simp only [Exit.inBlock, Exit.then, Exit.noGoto_ret]
          refine bodyPost_ret (results_cell3 rfl _ _ g2 _ _ _ _ rfl HB8.out hu33 rfl (by kernel_rfl)) rfl ?_
          exact ⟨HP8.out, (HK6.out.keeps HX4K.out).out HGW.out _ _ _ _, _, _, _, rfl, HV8.out, HL8.out, HN8.out⟩
        | false =>
          rw [if_neg (by rw [has]; decide)] at hf
          obtain ⟨ol, fe, Z2, hol, hle, hf⟩ := hf
          have HOL := K0 hol; have HLEARN := K0 hle
          have HC8 := K0 (Kd.R_reads' HR6.out).2.1
          have HF4 := K0 hf; clear has hol hle hf HF3
          go_upto_region 9 with fail
          have hdr : Below w6.heap.size w6 w6.drew := below_drew (zqw _ _)
          have d1 := c1
          have dS := HS6.out.below hdr
          have dC := Kd.C_below (Kd.R_reads' HR6.out).2.2 hdr
          refine start_ (n := 5) (S := fun w' => w'.cell? ⟨g1, 0, none⟩ = some (.pointer (some ⟨S, 0, none⟩)) ∧ SolIn w0 w' S B T U Z1 p q ∧ Kd.C (Kd.int .i64) w' A8 bl.length bl) (ds := [3]) #[false, false, false, false, false] (by kernel_rfl) rfl rfl ⟨d1, dS, dC⟩ (fun hHeld => ?_)
          refine pure_ (i := 1) (N := some 43) (v := ?_) (a' := ?_) #[false, true, false, false, false] rfl rfl (by kernel_rfl) (fun _ _ _ h => h) (Or.inl ⟨by rfl, ?_⟩) ?_ ?_
          rotate_left
          · intro w'
            go_simp
            with_reducible rfl
          rotate_left
          · simp only [Act.put, zqf, zqg, zqh, i64_w, i32_w]
            rfl
          refine take_ (i := 0) (N := some 42) (v := ?_) (a' := ?_) #[true, true, false, false, false] rfl rfl (by kernel_rfl) (fun _ _ _ h => h) (Or.inl ⟨by rfl, ?_⟩) hHeld ?_ ?_
          rotate_left
          · rintro w' ⟨s0, s1, s2⟩
            go_simp
            with_reducible rfl
          rotate_left
          · simp only [Act.put, zqf, zqg, zqh, i64_w, i32_w]
            rfl
          refine one_ (i := 2) (N := some 44) #[true, true, true, false, false] rfl rfl (by kernel_rfl) (by decide) (fun K hK => ?_)
          refine goes_ Try.func45 (by kernel_rfl) rfl #[.slice A8 bl.length c8] (by rfl) rfl rfl (by simp only [List.map_toArray, List.map_cons, List.map_nil]; rfl) ?_
          with_reducible refine (solve_opposites.calls k A8 c8 bl ol _ hHeld.2.2 HC8.out HOL.out).mono ?_
          rintro e' w3 ⟨v3, rfl, r3, hb3⟩
          refine ⟨_, rfl, ?_⟩
          obtain ⟨A3, c3, e3⟩ := Kd.R_slice r3
          subst e3
          have HR3 := K0 (show Kd.R (Kd.int .i64) 3 w3 w0.heap.size (fun k => T k = (0, 0) ∧ U k = 0) (.slice A3 ol.length c3) ol from Kd.R_of_own (Kd.own_of_R (Kd.R_lower r3 hHeld.2.1.old.size)) (fun k hk => ⟨hHeld.2.1.e.fresh k (Kd.R_base r3 k hk), hHeld.2.1.fresh k (Kd.R_base r3 k hk)⟩))
          have HC3 := K0 (Kd.R_reads' r3).2.1
          clear r3
          refine hK.out _ _ ⟨pw_cell_below hb3 hHeld.1, hHeld.2.1.below hb3, Kd.C_below hHeld.2.2 hb3⟩ (fun hHeld => ?_)
          clear hK K
          refine norm_ (a' := ?_) ?_ ?_
          rotate_left
          · show Act.put _ (some 44) _ = _
            simp only [Act.put, zqf, zqg, zqh, i64_w, i32_w]
            rfl
          refine last_ (i := 3) (N := some 45) #[true, true, true, true, false] rfl rfl (by kernel_rfl) (by decide) (fun K hK => ?_)
          obtain ⟨s7, m7, f7⟩ := hHeld.2.1.color HR3.out
          refine goes_ Try.func44 (by kernel_rfl) rfl #[.pointer (some ⟨S, 0, none⟩), .slice A3 ol.length c3] (by rfl) rfl rfl (by simp only [List.map_toArray, List.map_cons, List.map_nil]; rfl) ?_
          with_reducible refine (sol_learn.calls k s7 A3 c3 ol fe Z2 HC3.out (f7 A3 c3 rfl) HLEARN.out).mono ?_
          rintro e' w4 ⟨rfl, hp4⟩
          refine ⟨_, rfl, ?_⟩
          have HP4 := K0 hp4; have HM7 := K0 m7; clear hp4 s7 m7 f7
          refine hK.out _ _ ?_
          clear hK K
          refine norm_ (a' := ?_) ?_ ?_
          rotate_left
          · show Act.put _ (some 45) _ = _
            simp only [Act.put, zqf, zqg, zqh, i64_w, i32_w]
            rfl
          refine pure_ (i := 4) (N := some 9) (v := ?_) (a' := ?_) #[true, true, true, true, true] rfl rfl (by kernel_rfl) (fun _ _ _ h => h) (Or.inl ⟨by rfl, ?_⟩) ?_ ?_
          rotate_left
          · intro w'
            go_simp
            with_reducible rfl
          rotate_left
          · simp only [Act.put, zqf, zqg, zqh, i64_w, i32_w]
            rfl
          refine done_ (by kernel_rfl) ?_
          clear d1 dS dC hdr
          have hp5 : ∀ g, U g = 5 → paint U (.slice A3 ol.length c3) 4 g = 5 := fun g hg => (HM7.out.ukn g (Nat.lt_of_not_le fun hle => by have := (HS6.out.below (below_drew (zqw _ _))).fresh g (Nat.le_trans hb3.size hle); rw [hg] at this; cases this) (by rw [hg]; decide)).trans hg
          have HX17 := K0 ((HP4.out.2.1 g1 (hp5 g1 HU.out.2.1)).trans (zqn (w := w6.drew) HX16.out hb3))
          have HX27 := K0 ((HP4.out.2.1 g2 (hp5 g2 HU.out.2.2.2)).trans (zqn (w := w6.drew) HX26.out hb3))
          have HK7 := K0 ((HK6.out.below (W' := w3) (zqo (below_drew (zqw _ _)) hb3)).recolor fun g hg => ⟨hp5 g hg, HP4.out.2.1 g (hp5 g hg)⟩)
          have HKU := K0 (show ∀ g, U0 g = 5 → U g = 5 from fun g hg => (HK6.out g hg).1)
          have HLT := K0 (show ∀ g, U g = 5 → g < w3.heap.size from fun g hg => Nat.lt_of_lt_of_le (Nat.lt_of_not_le fun hle => by have := HS6.out.fresh g hle; rw [hg] at this; cases this) hb3.size)
          have HP5 := K0 hp5
          have HO4 := K0 HP4.out.1
          have HPS := K0 HP4.out.2.2
          clear hp5 hHeld HP4 hb3 HS6 HX16 HX26 HK6 HR6 c1
          have hf := HF4.out
          by_cases hfe : fe = 0
          case neg =>
            rw [if_pos hfe] at hf
            have q1 : (fe != 0) = true := by simpa using hfe
            have HRE := K0 hf
            have hx8 := HX27.out
            have e0 := zql hx8 0
            have e1 := zql hx8 1
            have e2 := zql hx8 2
            have e3 := zql hx8 3
            have y0 := zqm hx8 0
            have y1 := zqm hx8 1
            have y2 := zqm hx8 2
            have y3 := zqm hx8 3
            have HB8 := K0 (put4_facts hx8 (.bool false) (.slice none 0 0) (.slice none 0 0) (.int .i64 0)).2.2.2.2
            have HP8 := K0 (put4_below HO4.out HGE.out.2 (.bool false) (.slice none 0 0) (.slice none 0 0) (.int .i64 0))
            clear hx8 hfe hf
            go_wp2
            try simp only [Exit.inBlock, Exit.then, Exit.noGoto_ret]
            refine bodyPost_ret (results_cell3 rfl _ _ g2 _ _ _ _ rfl HB8.out hu33 rfl (by kernel_rfl)) rfl ?_
            exact ⟨HP8.out, HK7.out.out HGW.out _ _ _ _, _, _, _, by rw [HRE.out]; rfl, by rw [HRE.out]; exact Kd.R_nil _ _ _ _ _, by rw [HRE.out]; exact Kd.N_nil _ _ _ _ _, by rw [HRE.out]; exact Kd.R_nil _ _ _ _ _⟩
          subst hfe
          rw [if_neg (by decide)] at hf
          obtain ⟨T9, U9, p9, q9, s9, m9⟩ := HPS.out rfl
          have hsame := learns_same HLEARN.out
          have hk9 : ∀ g, U g = 5 → T g = (0, 0) → T9 g = (0, 0) ∧ U9 g = 5 := fun g hg ht => ⟨(m9.tk g (HLT.out g hg)).trans ht, (m9.ukn g (HLT.out g hg) (by rw [HP5.out g hg]; decide)).trans (HP5.out g hg)⟩
          have HS9 := K0 s9
          have HK9 := K0 (show K5 U0 w U9 _ from fun g hg => ⟨(m9.ukn g (HLT.out g (HKU.out g hg)) (by rw [(HK7.out g hg).1]; decide)).trans (HK7.out g hg).1, (HK7.out g hg).2⟩)
          have HU9 := K0 (show T9 g1 = (0, 0) ∧ U9 g1 = 5 ∧ T9 g2 = (0, 0) ∧ U9 g2 = 5 from ⟨(hk9 g1 HU.out.2.1 HU.out.1).1, (hk9 g1 HU.out.2.1 HU.out.1).2, (hk9 g2 HU.out.2.2.2 HU.out.2.2.1).1, (hk9 g2 HU.out.2.2.2 HU.out.2.2.1).2⟩)
          have HF5 := K0 hf
          have HAS5 := K0 (show ∀ l ∈ Z2.asm, (Lit.int .i64 l).wf = true by rw [hsame.1, HZ1.out.1]; exact HAS.out)
          have HNN5 := K0 (show 0 ≤ Z2.n ∧ Z2.n ≤ 1024 by rw [hsame.2, HZ1.out.2]; exact HNN.out)
          clear hf hsame hk9 s9 m9
          go_wp2
          go_roundg i2
          case measure => have := HI.out; omega
          case rel => exact ⟨i2, T9, U9, Z2, p9, q9, ⟨rfl⟩, HS9, HU9, HK9, HX17, HX27, HF5, HAS5, HNN5⟩
      rw [if_neg hbr] at hf
      have db : decide ((0 : Int) ≤ Z.E.br) = false := zqu hbr
      have HF2 := K0 hf; clear hbr hf HFF
      cases op with
      | false =>
        have hf := HF2.out
        rw [if_pos rfl] at hf
        have HF3 := K0 hf; clear hf HF2
        go_wp2_with fail
        refine (eng_Broken.calls Z.E B T p _ HS3.out.e).mono ?_
        rintro e' w3' ⟨rfl, rfl⟩
        go_wp2_with fail
        refine (sol_step.calls HS3.out).mono ?_
        rintro e' w5 ⟨rfl, s5, m5⟩
        have HS5 := K0 s5
        have HX15 := K0 ((m5.keeps HS3.out g1 HU.out.2.1).trans HX13.out)
        have HX25 := K0 ((m5.keeps HS3.out g2 HU.out.2.2.2).trans HX23.out)
        have HK5 := K0 (HK3.out.keeps (m5.keeps HS3.out))
        have c1 : w5.cell? ⟨g1, 0, none⟩ = some (.pointer (some ⟨S, 0, none⟩)) := (zql HX15.out 0).trans rfl
        clear s5 m5 HS3 HX13 HX23 HK3 c0
        have hf := HF3.out
        by_cases hst : Z.stepped.steps ≤ Z.fuel
        case neg =>
          rw [if_neg hst] at hf
          have ds : decide (Z.stepped.steps ≤ Z.fuel) = false := zqu hst
          have HRE := K0 hf; clear hst hf HF3
          go_wp2_with fail
          refine (sol_out.calls HS5.out g1 ((zql HX15.out 0).trans rfl)).mono ?_
          rintro e' w8 ⟨rfl, hb8⟩
          have hx8 := zqn HX25.out hb8
          have HO8 := K0 (zqo HS5.out.old hb8)
          have HB58 := K0 hb8
          have e0 := zql hx8 0
          have e1 := zql hx8 1
          have e2 := zql hx8 2
          have e3 := zql hx8 3
          have y0 := zqm hx8 0
          have y1 := zqm hx8 1
          have y2 := zqm hx8 2
          have y3 := zqm hx8 3
          have HB8 := K0 (put4_facts hx8 (.bool false) (.slice none 0 0) (.slice none 0 0) (.int .i64 Z.stepped.fuel)).2.2.2.2
          have HP8 := K0 (put4_below HO8.out HGE.out.2 (.bool false) (.slice none 0 0) (.slice none 0 0) (.int .i64 Z.stepped.fuel))
          clear hx8 hb8 HS5 HX15 HX25
          go_wp2
          try simp only [Exit.inBlock, Exit.then, Exit.noGoto_ret]
          refine bodyPost_ret (results_cell3 rfl _ _ g2 _ _ _ _ rfl HB8.out hu33 rfl (by kernel_rfl)) rfl ?_
          exact ⟨HP8.out, (HK5.out.below HB58.out).out HGW.out _ _ _ _, _, _, _, by rw [HRE.out]; rfl, by rw [HRE.out]; exact Kd.R_nil _ _ _ _ _, by rw [HRE.out]; exact Kd.N_nil _ _ _ _ _, by rw [HRE.out]; exact Kd.R_nil _ _ _ _ _⟩
        rw [if_pos hst] at hf
        obtain ⟨bl, hbl, cl, hends, hrs⟩ := hf
        have ds : decide (Z.stepped.steps ≤ Z.fuel) = true := zqt hst
        obtain ⟨Z1, hZ1⟩ : ∃ Z1, Z.stepped = Z1 := ⟨_, rfl⟩
        have HLIT1 := K0 (show ∀ c ∈ Z1.all, ∀ x ∈ c, (Lit.int .i64 x).wf = true by rw [← hZ1]; exact HLIT.out)
        rw [hZ1] at HS5 hbl hends hrs ds ⊢
        have HBL := K0 hbl; have HENDS := K0 hends; have HRS := K0 hrs; clear hst hbl hends hrs hZ1 HF3 HLIT
        have HLIT := HLIT1
        clear HLIT1
        obtain ⟨rs, hrse⟩ : ∃ rs, r = rs := ⟨_, rfl⟩
        rw [hrse] at HRS
        go_upto_region 15 with fail
        have hdr : Below w5.heap.size w5 w5.drew := below_drew (zqw _ _)
        have d1 := c1
        have dS := HS5.out.below hdr
        have d2 := HX25.out
        refine start_ (n := 12) (S := fun w' => w'.cell? ⟨g1, 0, none⟩ = some (.pointer (some ⟨S, 0, none⟩)) ∧ SolIn w0 w' S B T U Z1 p q ∧ w'.heap[g2]? = some (.cells #[.bool false, .slice none 0 0, .slice none 0 0, .int .i64 0] 33 (0, 0))) (ds := [5, 9]) #[false, false, false, false, false, false, false, false, false, false, false, false] (by kernel_rfl) rfl rfl ⟨d1, dS, d2⟩ (fun hHeld => ?_)
        refine pure_ (i := 2) (N := some 63) (v := ?_) (a' := ?_) #[false, false, true, false, false, false, false, false, false, false, false, false] rfl rfl (by kernel_rfl) (fun _ _ _ h => h) (Or.inl ⟨by rfl, ?_⟩) ?_ ?_
        rotate_left
        · intro w'
          go_simp
          with_reducible rfl
        rotate_left
        · simp only [Act.put, zqf, zqg, zqh, i64_w, i32_w]
          rfl
        refine pure_ (i := 4) (N := some 65) (v := ?_) (a' := ?_) #[false, false, true, false, true, false, false, false, false, false, false, false] rfl rfl (by kernel_rfl) (fun _ _ _ h => h) (Or.inl ⟨by rfl, ?_⟩) ?_ ?_
        rotate_left
        · intro w'
          go_simp
          with_reducible rfl
        rotate_left
        · simp only [Act.put, zqf, zqg, zqh, i64_w, i32_w]
          rfl
        refine take_ (i := 0) (N := some 61) (v := ?_) (a' := ?_) #[true, false, true, false, true, false, false, false, false, false, false, false] rfl rfl (by kernel_rfl) (fun _ _ _ h => h) (Or.inl ⟨by rfl, ?_⟩) hHeld ?_ ?_
        rotate_left
        · rintro w' ⟨s0, s1, s2⟩
          go_simp
          with_reducible rfl
        rotate_left
        · simp only [Act.put, zqf, zqg, zqh, i64_w, i32_w]
          rfl
        refine take_ (i := 1) (N := some 62) (v := ?_) (a' := ?_) #[true, true, true, false, true, false, false, false, false, false, false, false] rfl rfl (by kernel_rfl) (fun _ _ _ h => h) (Or.inl ⟨by rfl, ?_⟩) hHeld ?_ ?_
        rotate_left
        · rintro w' ⟨s0, s1, s2⟩
          go_simp
          with_reducible rfl
        rotate_left
        · simp only [Act.put, zqf, zqg, zqh, i64_w, i32_w]
          rfl
        refine one_ (i := 3) (N := some 64) #[true, true, true, true, true, false, false, false, false, false, false, false] rfl rfl (by kernel_rfl) (by decide) (fun K hK => ?_)
        refine goes_ Try.func40 (by kernel_rfl) rfl #[.pointer (some ⟨S, 0, none⟩), .int .i64 l] (by rfl) rfl rfl (by simp only [List.map_toArray, List.map_cons, List.map_nil]; rfl) ?_
        with_reducible refine (sol_blamed.calls hHeld.2.1 HLIT.out m l bl HLW.out HBL.out).mono ?_
        rintro e' w3 ⟨v3, rfl, r3, hb3⟩
        refine ⟨_, rfl, ?_⟩
        obtain ⟨A3, c3, e3⟩ := Kd.R_slice r3
        subst e3
        have HR3 := K0 (show Kd.R (Kd.int .i64) 3 w3 w0.heap.size (fun k => T k = (0, 0) ∧ U k = 0) (.slice A3 bl.length c3) bl from Kd.R_of_own (Kd.own_of_R (Kd.R_lower r3 hHeld.2.1.old.size)) (fun k hk => ⟨hHeld.2.1.e.fresh k (Kd.R_base r3 k hk), hHeld.2.1.fresh k (Kd.R_base r3 k hk)⟩))
        clear r3
        refine hK.out _ _ ⟨pw_cell_below hb3 hHeld.1, hHeld.2.1.below hb3, zqn hHeld.2.2 hb3⟩ (fun hHeld => ?_)
        clear hK K
        refine norm_ (a' := ?_) ?_ ?_
        rotate_left
        · show Act.put _ (some 64) _ = _
          simp only [Act.put, zqf, zqg, zqh, i64_w, i32_w]
          rfl
        refine last_ (i := 5) (N := some 66) #[true, true, true, true, true, true, false, false, false, false, false, false] rfl rfl (by kernel_rfl) (by decide) (fun K hK => ?_)
        refine goes_ Try.func43 (by kernel_rfl) rfl #[.pointer (some ⟨S, 0, none⟩), .slice A3 bl.length c3, .int .i64 l] (by rfl) rfl rfl (by simp only [List.map_toArray, List.map_cons, List.map_nil]; rfl) ?_
        with_reducible refine (sol_end.run k hHeld.2.1 A3 c3 bl l cl rs HR3.out HENDS.out HRS.out).mono ?_
        rintro e' w4 ⟨ho4, hx4, vV, vL, vN, rfl, rV, rL, rN⟩
        refine ⟨_, rfl, ?_⟩
        have HO4 := K0 ho4
        have HX4 := K0 ((hx4 g2 HU.out.2.2.2).trans hHeld.2.2)
        have HKE := K0 ((HK5.out.below (W' := w3) (zqo (below_drew (zqw _ _)) hb3)).keeps hx4)
        obtain ⟨AV, cV, eV⟩ := Kd.R_slice rV
        obtain ⟨AL, cL, eL⟩ := Kd.N_slice rL
        obtain ⟨AN, cN, eN⟩ := Kd.R_slice rN
        subst eV eL eN; have HV4 := K0 rV; have HL4 := K0 rL; have HN4 := K0 rN; clear ho4 hx4 rV rL rN
        refine hK.out _ _ ?_
        clear hK K
        refine norm_ (a' := ?_) ?_ ?_
        rotate_left
        · show Act.put _ (some 66) _ = _
          simp only [Act.put, zqf, zqg, zqh, i64_w, i32_w]
          rfl
        refine pure_ (i := 6) (N := some 67) (v := ?_) (a' := ?_) #[true, true, true, true, true, true, true, false, false, false, false, false] rfl rfl (by kernel_rfl) (fun _ _ _ h => h) (Or.inl ⟨by rfl, ?_⟩) ?_ ?_
        rotate_left
        · intro w'
          go_simp
          with_reducible rfl
        rotate_left
        · simp only [Act.put, zqf, zqg, zqh, i64_w, i32_w]
          rfl
        refine pure_ (i := 7) (N := some 68) (v := ?_) (a' := ?_) #[true, true, true, true, true, true, true, true, false, false, false, false] rfl rfl (by kernel_rfl) (fun _ _ _ h => h) (Or.inl ⟨by rfl, ?_⟩) ?_ ?_
        rotate_left
        · intro w'
          go_simp
          with_reducible rfl
        rotate_left
        · simp only [Act.put, zqf, zqg, zqh, i64_w, i32_w]
          rfl
        refine pure_ (i := 8) (N := some 69) (v := ?_) (a' := ?_) #[true, true, true, true, true, true, true, true, true, false, false, false] rfl rfl (by kernel_rfl) (fun _ _ _ h => h) (Or.inl ⟨by rfl, ?_⟩) ?_ ?_
        rotate_left
        · intro w'
          go_simp
          with_reducible rfl
        rotate_left
        · simp only [Act.put, zqf, zqg, zqh, i64_w, i32_w]
          rfl
        refine last_ (i := 9) (N := none) #[true, true, true, true, true, true, true, true, true, true, false, false] rfl rfl (by kernel_rfl) (by decide) (fun K hK => ?_)
        have hx5 := HX4.out
        have e0 := zql hx5 0
        have e1 := zql hx5 1
        have e2 := zql hx5 2
        have e3 := zql hx5 3
        have y0 := zqm hx5 0
        have y1 := zqm hx5 1
        have y2 := zqm hx5 2
        have y3 := zqm hx5 3
        clear hx5
        refine skip_ (w1 := ?_) (by rfl) rfl ?_ ?_
        rotate_left
        · go_simp
          rfl
        refine hK.out _ _ ?_
        clear hK K
        refine pure_ (i := 10) (N := some 3) (v := ?_) (a' := ?_) #[true, true, true, true, true, true, true, true, true, true, true, false] rfl rfl (by kernel_rfl) (fun _ _ _ h => h) (Or.inl ⟨by rfl, ?_⟩) ?_ ?_
        rotate_left
        · intro w'
          go_simp
          with_reducible rfl
        rotate_left
        · simp only [Act.put, zqf, zqg, zqh, i64_w, i32_w]
          rfl
        refine pure_ (i := 11) (N := some 4) (v := ?_) (a' := ?_) #[true, true, true, true, true, true, true, true, true, true, true, true] rfl rfl (by kernel_rfl) (fun _ _ _ h => h) (Or.inl ⟨by rfl, ?_⟩) ?_ ?_
        rotate_left
        · intro w'
          go_simp
          with_reducible rfl
        rotate_left
        · simp only [Act.put, zqf, zqg, zqh, i64_w, i32_w]
          rfl
        refine done_ (by kernel_rfl) ?_
        clear d1 dS d2 hdr e0 e1 e2 e3 y0 y1 y2 y3
        have hx8 := HX4.out
        have HB8 := K0 (put4_facts hx8 (.bool rs.sat) (.slice AV rs.vals.length cV) (.slice AL rs.log.length cL) (.int .i64 rs.steps)).2.2.2.2
        have HP8 := K0 (put4_below HO4.out HGE.out.2 (.bool rs.sat) (.slice AV rs.vals.length cV) (.slice AL rs.log.length cL) (.int .i64 rs.steps))
        have hfar := put4_far (w := w4) (g := g2) (.bool rs.sat) (.slice AV rs.vals.length cV) (.slice AL rs.log.length cL) (.int .i64 rs.steps)
        have hne : ∀ k, U k ≠ 5 → k ≠ g2 := fun k hk e => hk (by rw [e]; exact HU.out.2.2.2)
        have HV8 := K0 (Kd.R_mono (Kd.R_step HV4.out (fun k hk _ => hfar k (hne k hk.2))) HKE.out.okU (ok' := okU w0 U0))
        have HL8 := K0 (Kd.N_mono (Kd.N_step HL4.out (fun k hk _ => hfar k (hne k hk.1.1.2))) (fun k hk => ⟨⟨HKE.out.okU k hk.1.1, hk.1.2⟩, hk.2⟩) (ok' := fun k => (okU w0 U0 k ∧ some k ≠ (Value.slice AN rs.need.length cN).ownBlock) ∧ some k ≠ (Value.slice AV rs.vals.length cV).ownBlock))
        have HN8 := K0 (Kd.R_mono (Kd.R_step HN4.out (fun k hk _ => hfar k (hne k hk.2))) HKE.out.okU (ok' := okU w0 U0))
        have HRR := K0 hrse; clear hx8 hfar hne hrse
        go_wp2
        try simp only [Exit.inBlock, Exit.then, Exit.noGoto_ret]
        refine bodyPost_ret (results_cell3 rfl _ _ g2 _ _ _ _ rfl HB8.out hu33 rfl (by kernel_rfl)) rfl ?_
        rw [HRR.out]
        exact ⟨HP8.out, HKE.out.out HGW.out _ _ _ _, _, _, _, rfl, HV8.out, HL8.out, HN8.out⟩
      | true =>
        have hf := HF2.out
        rw [if_neg (by decide)] at hf
        have HF3 := K0 hf; clear hf HF2
        go_wp2_with fail
        refine (eng_Broken.calls Z.E B T p _ HS3.out.e).mono ?_
        rintro e' w3' ⟨rfl, rfl⟩
        have hf := HF3.out
        by_cases hl0 : l = 0
        case neg =>
          rw [if_neg hl0] at hf
          have ql : (l == 0) = false := by simpa using hl0
          have HF4 := K0 hf; clear hl0 hf HF3
          go_wp2_with fail
          refine (sol_step.calls HS3.out).mono ?_
          rintro e' w5 ⟨rfl, s5, m5⟩
          have HS5 := K0 s5
          have HX15 := K0 ((m5.keeps HS3.out g1 HU.out.2.1).trans HX13.out)
          have HX25 := K0 ((m5.keeps HS3.out g2 HU.out.2.2.2).trans HX23.out)
          have HK5 := K0 (HK3.out.keeps (m5.keeps HS3.out))
          have c1 : w5.cell? ⟨g1, 0, none⟩ = some (.pointer (some ⟨S, 0, none⟩)) := (zql HX15.out 0).trans rfl
          clear s5 m5 HS3 HX13 HX23 HK3 c0
          have hf := HF4.out
          by_cases hst : Z.stepped.steps ≤ Z.fuel
          case pos =>
            rw [if_pos hst] at hf
            obtain ⟨E2, b, hpush, hf⟩ := hf
            have ds : decide (Z.stepped.steps ≤ Z.fuel) = true := zqt hst
            have HPC := K0 (eng_Push.calls k Z.E B T p l E2 b _ HS5.out.e HLW.out HLITS.out hpush)
            have HF5 := K0 hf
            have c0 := HS5.out.cells.1
            clear hst hpush hf HF4
            go_wp2_with fail
            refine HPC.out.mono ?_
            rintro e' w6 ⟨rfl, T6, p6, h6, m6, f6⟩
            obtain ⟨s6, n6⟩ := HS5.out.moved h6 m6
            have HS6 := K0 s6
            have HX16 := K0 ((n6.keeps HS5.out g1 HU.out.2.1).trans HX15.out)
            have HX26 := K0 ((n6.keeps HS5.out g2 HU.out.2.2.2).trans HX25.out)
            have HK6 := K0 (HK5.out.keeps (n6.keeps HS5.out))
            have HU6 := K0 (show T6 g1 = (0, 0) ∧ U g1 = 5 ∧ T6 g2 = (0, 0) ∧ U g2 = 5 from ⟨(n6.tk g1 (blk_lt HX15.out)).trans HU.out.1, HU.out.2.1, (n6.tk g2 (blk_lt HX25.out)).trans HU.out.2.2.1, HU.out.2.2.2⟩)
            clear h6 m6 f6 s6 n6 HPC HS5 HX15 HX25 HK5 c0 c1
            go_wp2
            go_roundg i2
            case measure => have := HI.out; omega
            case rel => exact ⟨i2, T6, U, { Z.stepped with E := E2 }, p6, q, ⟨rfl⟩, HS6, HU6, HK6, HX16, HX26, HF5, HAS, HNN⟩
          rw [if_neg hst] at hf
          have ds : decide (Z.stepped.steps ≤ Z.fuel) = false := zqu hst
          have HRE := K0 hf; clear hst hf HF4
          go_wp2_with fail
          refine (sol_out.calls HS5.out g1 ((zql HX15.out 0).trans rfl)).mono ?_
          rintro e' w8 ⟨rfl, hb8⟩
          have hx8 := zqn HX25.out hb8
          have HO8 := K0 (zqo HS5.out.old hb8)
          have HB58 := K0 hb8
          have e0 := zql hx8 0
          have e1 := zql hx8 1
          have e2 := zql hx8 2
          have e3 := zql hx8 3
          have y0 := zqm hx8 0
          have y1 := zqm hx8 1
          have y2 := zqm hx8 2
          have y3 := zqm hx8 3
          have HB8 := K0 (put4_facts hx8 (.bool false) (.slice none 0 0) (.slice none 0 0) (.int .i64 Z.stepped.fuel)).2.2.2.2
          have HP8 := K0 (put4_below HO8.out HGE.out.2 (.bool false) (.slice none 0 0) (.slice none 0 0) (.int .i64 Z.stepped.fuel))
          clear hx8 hb8 HS5 HX15 HX25
          go_wp2
          try simp only [Exit.inBlock, Exit.then, Exit.noGoto_ret]
          refine bodyPost_ret (results_cell3 rfl _ _ g2 _ _ _ _ rfl HB8.out hu33 rfl (by kernel_rfl)) rfl ?_
          exact ⟨HP8.out, (HK5.out.below HB58.out).out HGW.out _ _ _ _, _, _, _, by rw [HRE.out]; rfl, by rw [HRE.out]; exact Kd.R_nil _ _ _ _ _, by rw [HRE.out]; exact Kd.N_nil _ _ _ _ _, by rw [HRE.out]; exact Kd.R_nil _ _ _ _ _⟩
        rw [if_pos hl0] at hf
        have ql : (l == 0) = true := by rw [hl0]; rfl
        have HRE := K0 hf; clear hl0 hf HF3
        have HG2 := K0 (blk_lt HX23.out)
        obtain ⟨st, hst⟩ : ∃ st, Z.steps = st := ⟨_, rfl⟩
        have HST := K0 hst
        have hdr : Below w3'.heap.size w3' w3'.drew := below_drew (zqw _ _)
        have d1 := c1
        have dS := HS3.out.below hdr
        have d2 := HX23.out
        have d5 := HS3.out.cells.2.2.2.2.2.1
        rw [hst] at d5
        clear hst
        go_upto_region 20 with fail
        refine start_ (n := 10) (S := fun w' => w'.cell? ⟨g1, 0, none⟩ = some (.pointer (some ⟨S, 0, none⟩)) ∧ SolIn w0 w' S B T U Z p q ∧ w'.heap[g2]? = some (.cells #[.bool false, .slice none 0 0, .slice none 0 0, .int .i64 0] 33 (0, 0)) ∧ w'.cell? ⟨S, 5, none⟩ = some (.int .i64 st)) (ds := [7]) #[false, false, false, false, false, false, false, false, false, false] (by kernel_rfl) rfl rfl ⟨d1, dS, d2, d5⟩ (fun hHeld => ?_)
        refine take_ (i := 0) (N := some 88) (v := ?_) (a' := ?_) #[true, false, false, false, false, false, false, false, false, false] rfl rfl (by kernel_rfl) (fun _ _ _ h => h) (Or.inl ⟨by rfl, ?_⟩) hHeld ?_ ?_
        rotate_left
        · rintro w' ⟨s0, s1, s2, s3⟩
          go_simp
          with_reducible rfl
        rotate_left
        · simp only [Act.put, zqf, zqg, zqh, i64_w, i32_w]
          rfl
        refine take_ (i := 2) (N := some 90) (v := ?_) (a' := ?_) #[true, false, true, false, false, false, false, false, false, false] rfl rfl (by kernel_rfl) (fun _ _ _ h => h) (Or.inl ⟨by rfl, ?_⟩) hHeld ?_ ?_
        rotate_left
        · rintro w' ⟨s0, s1, s2, s3⟩
          go_simp
          with_reducible rfl
        rotate_left
        · simp only [Act.put, zqf, zqg, zqh, i64_w, i32_w]
          rfl
        refine pure_ (i := 3) (N := some 91) (v := ?_) (a' := ?_) #[true, false, true, true, false, false, false, false, false, false] rfl rfl (by kernel_rfl) (fun _ _ _ h => h) (Or.inl ⟨by rfl, ?_⟩) ?_ ?_
        rotate_left
        · intro w'
          go_simp
          with_reducible rfl
        rotate_left
        · simp only [Act.put, zqf, zqg, zqh, i64_w, i32_w]
          rfl
        refine pure_ (i := 4) (N := some 92) (v := ?_) (a' := ?_) #[true, false, true, true, true, false, false, false, false, false] rfl rfl (by kernel_rfl) (fun _ _ _ h => h) (Or.inl ⟨by rfl, ?_⟩) ?_ ?_
        rotate_left
        · intro w'
          go_simp
          with_reducible rfl
        rotate_left
        · simp only [Act.put, zqf, zqg, zqh, i64_w, i32_w]
          rfl
        refine take_ (i := 5) (N := some 93) (v := ?_) (a' := ?_) #[true, false, true, true, true, true, false, false, false, false] rfl rfl (by kernel_rfl) (fun _ _ _ h => h) (Or.inl ⟨by rfl, ?_⟩) hHeld ?_ ?_
        rotate_left
        · rintro w' ⟨s0, s1, s2, s3⟩
          go_simp
          with_reducible rfl
        rotate_left
        · simp only [Act.put, zqf, zqg, zqh, i64_w, i32_w]
          rfl
        refine one_ (i := 1) (N := some 89) #[true, true, true, true, true, true, false, false, false, false] rfl rfl (by kernel_rfl) (by decide) (fun K hK => ?_)
        refine goes_ Try.func47 (by kernel_rfl) rfl #[.pointer (some ⟨S, 0, none⟩)] (by rfl) rfl rfl (by simp only [List.map_toArray, List.map_cons, List.map_nil]; rfl) ?_
        with_reducible refine (sol_values.calls hHeld.2.1 HNN.out).mono ?_
        rintro e' w3 ⟨v3, rfl, r3, hb3⟩
        refine ⟨_, rfl, ?_⟩
        obtain ⟨A3, c3, e3⟩ := Kd.R_slice r3
        subst e3; have HR3 := K0 r3; have HB3 := K0 hb3; clear r3
        refine hK.out _ _ ⟨pw_cell_below hb3 hHeld.1, hHeld.2.1.below hb3, zqn hHeld.2.2.1 hb3, pw_cell_below hb3 hHeld.2.2.2⟩ (fun hHeld => ?_)
        clear hK K
        refine norm_ (a' := ?_) ?_ ?_
        rotate_left
        · show Act.put _ (some 89) _ = _
          simp only [Act.put, zqf, zqg, zqh, i64_w, i32_w]
          rfl
        refine pure_ (i := 6) (N := some 94) (v := ?_) (a' := ?_) #[true, true, true, true, true, true, true, false, false, false] rfl rfl (by kernel_rfl) (fun _ _ _ h => h) (Or.inl ⟨by rfl, ?_⟩) ?_ ?_
        rotate_left
        · intro w'
          go_simp
          with_reducible rfl
        rotate_left
        · simp only [Act.put, zqf, zqg, zqh, i64_w, i32_w]
          rfl
        refine last_ (i := 7) (N := none) #[true, true, true, true, true, true, true, true, false, false] rfl rfl (by kernel_rfl) (by decide) (fun K hK => ?_)
        have hx5 := hHeld.2.2.1
        have HS5 := K0 hHeld.2.1
        have HX5 := K0 hx5
        have e0 := zql hx5 0
        have e1 := zql hx5 1
        have e2 := zql hx5 2
        have e3 := zql hx5 3
        have y0 := zqm hx5 0
        have y1 := zqm hx5 1
        have y2 := zqm hx5 2
        have y3 := zqm hx5 3
        clear hx5
        refine skip_ (w1 := ?_) (by rfl) rfl ?_ ?_
        rotate_left
        · go_simp
          rfl
        refine hK.out _ _ ?_
        clear hK K
        refine pure_ (i := 8) (N := some 3) (v := ?_) (a' := ?_) #[true, true, true, true, true, true, true, true, true, false] rfl rfl (by kernel_rfl) (fun _ _ _ h => h) (Or.inl ⟨by rfl, ?_⟩) ?_ ?_
        rotate_left
        · intro w'
          go_simp
          with_reducible rfl
        rotate_left
        · simp only [Act.put, zqf, zqg, zqh, i64_w, i32_w]
          rfl
        refine pure_ (i := 9) (N := some 4) (v := ?_) (a' := ?_) #[true, true, true, true, true, true, true, true, true, true] rfl rfl (by kernel_rfl) (fun _ _ _ h => h) (Or.inl ⟨by rfl, ?_⟩) ?_ ?_
        rotate_left
        · intro w'
          go_simp
          with_reducible rfl
        rotate_left
        · simp only [Act.put, zqf, zqg, zqh, i64_w, i32_w]
          rfl
        refine done_ (by kernel_rfl) ?_
        clear d1 dS d2 hdr d5 e0 e1 e2 e3 y0 y1 y2 y3
        have HKE := K0 (HK3.out.below (W' := w3) (zqo (below_drew (zqw _ _)) HB3.out))
        have hx8 := HX5.out
        have HB8 := K0 (put4_facts hx8 (.bool true) (.slice A3 Z.values.length c3) (.slice none 0 0) (.int .i64 st)).2.2.2.2
        have HP8 := K0 (put4_below HS5.out.old HGE.out.2 (.bool true) (.slice A3 Z.values.length c3) (.slice none 0 0) (.int .i64 st))
        have HV8 := K0 (Kd.R_mono (Kd.R_lower (Kd.R_step (Kd.R_bound HR3.out) (fun k hk _ => put4_far (w := w3) (g := g2) (.bool true) (.slice A3 Z.values.length c3) (.slice none 0 0) (.int .i64 st) k (fun e => by have h1 := hk.2.1; have h2 := HG2.out; rw [e] at h1; exact absurd h2 (Nat.not_lt.2 h1)))) (Nat.zero_le _)) (fun k hk => ⟨Nat.le_trans HS3.out.old.size hk.2.1, fun e => absurd (HK3.out k e).2.2.2 (Nat.not_lt.2 hk.2.1)⟩) (ok' := okU w0 U0))
        clear hx8 hHeld
        go_wp2
        try simp only [Exit.inBlock, Exit.then, Exit.noGoto_ret]
        refine bodyPost_ret (results_cell3 rfl _ _ g2 _ _ _ _ rfl HB8.out hu33 rfl (by kernel_rfl)) rfl ?_
        rw [HRE.out, HST.out]
        exact ⟨HP8.out, HKE.out.out HGW.out _ _ _ _, _, _, _, rfl, HV8.out, Kd.N_nil _ _ _ _ _, Kd.R_nil _ _ _ _ _⟩
end Go.Proofs.Ytaibnbhgjnddnaa.P
