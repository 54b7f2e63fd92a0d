import Derived.Lib.SliceRun
import Derived.Deep.RegionLaw
import Derived.Shelf.RegionOpenPlain
import Derived.Maps.OwnSet
import Derived.Maps.OwnOps
import Derived.Maps.Views
import Derived.Laws.Rows
import Derived.StillTailTactics
import Derived.Shelf.Abstract
import Derived.Laws.EntriesVeiled
import Derived.Test.YtppkeonhbkahmaaKCoreTrims1
namespace Go.Proofs.Ytppkeonhbkahmaa.P
open Go.RowKit Go.Proofs.YtppkeonhbkahmaaW.PrintWords Go.Proofs.YtppkeonhbkahmaaW.PrintLast Go.Proofs.YtppkeonhbkahmaaW.PrintMore
attribute [local go_sem] max2_int min2_int max_two min_two max_three min_three max_four min_four
set_option linter.unusedVariables false
set_option linter.unusedSimpArgs false
set_option maxRecDepth 100000 in
set_option maxHeartbeats 2000000 in
theorem slices_IndexFunc_chains.calls (gf : Nat) (lb : Array Value) (eg : ∀ args w, (callFunc gf args).run Try.prog w = .ok (.enter gf args) w) (p : S48 → Bool) (A : Option Addr) (c : Nat) (xs : List S48) (w : World)
    (hr : Kd.C k48 w A xs.length xs) (hp : ∀ W, Below w.heap.size w W → ∀ x ∈ xs, ∀ (A0 : Option Addr) (c0 : Nat) (A1 : Option Addr) (c1 : Nat), x.f0.length ≤ c0 → Kd.C (Kd.int .i64) W A0 x.f0.length x.f0 → x.f1.length ≤ c1 → Kd.C (Kd.int .i64) W A1 x.f1.length x.f1 → Calls Try.prog gf (#[.agg #[.slice A0 x.f0.length c0, .slice A1 x.f1.length c1]] ++ lb) W fun e W' => e = .returned (.bool (p x)) ∧ Below W.heap.size W W') :
    Calls Try.prog 45 #[.slice A xs.length c, .func (.func gf) #[] lb] w fun e w' => e = .returned (.int .i64 (ixOf p xs 0)) ∧ Below w.heap.size w w' := by
  have HR := K0 hr
  have HP := K0 hp
  have hbig := hr.2.1
  have hu64 := Try.underlying48
  clear hr hp
  go_enter Try.func45, Try.ntmps45
  go_wp2
  go_loopg [5, 8] xs.length (fun gg _ s8 wr => ∃ kk : Nat, s8 = .int .i64 (kk : Int) ∧ Aside0 (kk + gg = xs.length) ∧ Aside0 (Below w.heap.size w wr) ∧ Aside0 (ixOf p xs 0 = ixOf p (xs.drop kk) (kk : Int)))
  case atStart => exact ⟨0, rfl, ⟨by simp⟩, ⟨Below.refl _ _⟩, ⟨rfl⟩⟩
  case round =>
    obtain ⟨kk, rfl, hg, hb, hx⟩ := hrel
    by_cases hlt : kk < xs.length
    · obtain ⟨ad, A0, c0, A1, c1, e1, x1, x2, hl0, hC0, hl1, hC1⟩ := at_T48 (Kd.C_below HR.out hb.out) (kk : Int) (by omega) (by omega)
      cases e1
      obtain ⟨y, hy⟩ : ∃ y, xs[kk] = y := ⟨_, rfl⟩
      have hrd : rd_T48 xs (kk : Int) = y := by simp [rd_T48, hlt, hy]
      rw [hrd] at x1 x2 hl0 hC0 hl1 hC1
      simp only [Int.toNat_natCast] at x1 x2
      have hcall := HP.out _ hb.out y (by rw [← hy]; exact List.getElem_mem hlt) A0 c0 A1 c1 hl0 hC0 hl1 hC1
      have hx2 := hx.out
      rw [ixOf_drop p xs kk hlt, hy] at hx2
      have HX2 := K0 hx2
      clear hx2 hx hrd hy hC0 hC1
      have P0 : ((0 : Int) ≤ (kk : Int)) = True := eq_true (by omega)
      have P1 : ((kk : Int) < (xs.length : Int)) = True := eq_true (by omega)
      have P2 : (kk < xs.length) = True := eq_true hlt
      have hd : decide ((kk : Int) < (xs.length : Int)) = true := decide_eq_true (by omega)
      cases hq : p y with
      | true =>
        rw [hq] at hcall
        have hz := HX2.out
        rw [if_pos hq] at hz
        have HZ := K0 hz
        clear hz
        go_wp2_with fail
        refine hcall.mono ?_
        rintro e w' ⟨rfl, hb'⟩
        go_wp2
        go_ret
        exact ⟨by rw [HZ.out]; rfl, hb.out.trans (hb'.mono hb.out.size)⟩
      | false =>
        rw [hq] at hcall
        have hz := HX2.out
        rw [if_neg (by rw [hq]; decide)] at hz
        have HZ := K0 hz
        clear hz
        go_wp2_with fail
        refine hcall.mono ?_
        rintro e w' ⟨rfl, hb'⟩
        go_wp2
        go_roundg (xs.length - (kk + 1))
        case measure => have := hg.out; omega
        case rel => exact ⟨kk + 1, by simp, ⟨by omega⟩, ⟨hb.out.trans (hb'.mono hb.out.size)⟩, HZ⟩
    · have hd : decide ((kk : Int) < (xs.length : Int)) = false := decide_eq_false (by omega)
      have hz := hx.out
      rw [List.drop_of_length_le (by omega), ixOf_nil] at hz
      have HZ := K0 hz
      clear hz hx
      go_wp2
      go_ret
      exact ⟨by rw [HZ.out]; rfl, hb.out⟩
set_option maxRecDepth 100000 in
theorem slices_ContainsFunc_chains.calls (gf : Nat) (lb : Array Value) (eg : ∀ args w, (callFunc gf args).run Try.prog w = .ok (.enter gf args) w) (p : S48 → Bool) (A : Option Addr) (c : Nat) (xs : List S48) (w : World)
    (hr : Kd.C k48 w A xs.length xs) (hp : ∀ W, Below w.heap.size w W → ∀ x ∈ xs, ∀ (A0 : Option Addr) (c0 : Nat) (A1 : Option Addr) (c1 : Nat), x.f0.length ≤ c0 → Kd.C (Kd.int .i64) W A0 x.f0.length x.f0 → x.f1.length ≤ c1 → Kd.C (Kd.int .i64) W A1 x.f1.length x.f1 → Calls Try.prog gf (#[.agg #[.slice A0 x.f0.length c0, .slice A1 x.f1.length c1]] ++ lb) W fun e W' => e = .returned (.bool (p x)) ∧ Below W.heap.size W W') :
    Calls Try.prog 30 #[.slice A xs.length c, .func (.func gf) #[] lb] w fun e w' => e = .returned (.bool (decide (0 ≤ ixOf p xs 0))) ∧ Below w.heap.size w w' := by
  have HC := K0 (slices_IndexFunc_chains.calls gf lb eg p A c xs w hr hp)
  clear hr hp
  go_enter Try.func30, Try.ntmps30
  go_wp2_with fail
  refine HC.out.mono ?_
  rintro e w' ⟨rfl, hb'⟩
  go_wp2
  go_ret
  exact ⟨by simp, hb'⟩
set_option maxRecDepth 100000 in
set_option maxHeartbeats 2000000 in
theorem slices_IndexFunc_rows.calls (gf : Nat) (lb : Array Value) (eg : ∀ args w, (callFunc gf args).run Try.prog w = .ok (.enter gf args) w) (p : List Int → Bool) (A : Option Addr) (c : Nat) (xs : List (List Int)) (w : World)
    (hr : Kd.C (Kd.slice 3 (Kd.int .i64)) w A xs.length xs) (hp : ∀ W, Below w.heap.size w W → ∀ x ∈ xs, ∀ (A1 : Option Addr) (c1 : Nat), x.length ≤ c1 → Kd.C (Kd.int .i64) W A1 x.length x → Calls Try.prog gf (#[.slice A1 x.length c1] ++ lb) W fun e W' => e = .returned (.bool (p x)) ∧ Below W.heap.size W W') :
    Calls Try.prog 42 #[.slice A xs.length c, .func (.func gf) #[] lb] w fun e w' => e = .returned (.int .i64 (ixOf p xs 0)) ∧ Below w.heap.size w w' := by
  have HR := K0 hr
  have HP := K0 hp
  have hbig := hr.2.1
  clear hr hp
  go_enter Try.func42, Try.ntmps42
  go_wp2
  go_loopg [5, 8] xs.length (fun gg _ s8 wr => ∃ kk : Nat, s8 = .int .i64 (kk : Int) ∧ Aside0 (kk + gg = xs.length) ∧ Aside0 (Below w.heap.size w wr) ∧ Aside0 (ixOf p xs 0 = ixOf p (xs.drop kk) (kk : Int)))
  case atStart => exact ⟨0, rfl, ⟨by simp⟩, ⟨Below.refl _ _⟩, ⟨rfl⟩⟩
  case round =>
    obtain ⟨kk, rfl, hg, hb, hx⟩ := hrel
    by_cases hlt : kk < xs.length
    · obtain ⟨ad, A1, c1, e1, x1, hl1, hC1⟩ := at_L3 (Kd.C_below HR.out hb.out) (kk : Int) (by omega) (by omega)
      cases e1
      obtain ⟨y, hy⟩ : ∃ y, xs[kk] = y := ⟨_, rfl⟩
      have hrd : rd_L3 xs (kk : Int) = y := by simp [rd_L3, hlt, hy]
      rw [hrd] at x1 hl1 hC1
      simp only [Int.toNat_natCast] at x1
      have hcall := HP.out _ hb.out y (by rw [← hy]; exact List.getElem_mem hlt) A1 c1 hl1 hC1
      have hx2 := hx.out
      rw [ixOf_drop p xs kk hlt, hy] at hx2
      have HX2 := K0 hx2
      clear hx2 hx hrd hy hC1
      have P0 : ((0 : Int) ≤ (kk : Int)) = True := eq_true (by omega)
      have P1 : ((kk : Int) < (xs.length : Int)) = True := eq_true (by omega)
      have P2 : (kk < xs.length) = True := eq_true hlt
      have hd : decide ((kk : Int) < (xs.length : Int)) = true := decide_eq_true (by omega)
      cases hq : p y with
      | true =>
        rw [hq] at hcall
        have hz := HX2.out
        rw [if_pos hq] at hz
        have HZ := K0 hz
        clear hz
        go_wp2_with fail
        refine hcall.mono ?_
        rintro e w' ⟨rfl, hb'⟩
        go_wp2
        go_ret
        exact ⟨by rw [HZ.out]; rfl, hb.out.trans (hb'.mono hb.out.size)⟩
      | false =>
        rw [hq] at hcall
        have hz := HX2.out
        rw [if_neg (by rw [hq]; decide)] at hz
        have HZ := K0 hz
        clear hz
        go_wp2_with fail
        refine hcall.mono ?_
        rintro e w' ⟨rfl, hb'⟩
        go_wp2
        go_roundg (xs.length - (kk + 1))
        case measure => have := hg.out; omega
        case rel => exact ⟨kk + 1, by simp, ⟨by omega⟩, ⟨hb.out.trans (hb'.mono hb.out.size)⟩, HZ⟩
    · have hd : decide ((kk : Int) < (xs.length : Int)) = false := decide_eq_false (by omega)
      have hz := hx.out
      rw [List.drop_of_length_le (by omega), ixOf_nil] at hz
      have HZ := K0 hz
      clear hz hx
      go_wp2
      go_ret
      exact ⟨by rw [HZ.out]; rfl, hb.out⟩
set_option maxRecDepth 100000 in
theorem slices_ContainsFunc_rows.calls (gf : Nat) (lb : Array Value) (eg : ∀ args w, (callFunc gf args).run Try.prog w = .ok (.enter gf args) w) (p : List Int → Bool) (A : Option Addr) (c : Nat) (xs : List (List Int)) (w : World)
    (hr : Kd.C (Kd.slice 3 (Kd.int .i64)) w A xs.length xs) (hp : ∀ W, Below w.heap.size w W → ∀ x ∈ xs, ∀ (A1 : Option Addr) (c1 : Nat), x.length ≤ c1 → Kd.C (Kd.int .i64) W A1 x.length x → Calls Try.prog gf (#[.slice A1 x.length c1] ++ lb) W fun e W' => e = .returned (.bool (p x)) ∧ Below W.heap.size W W') :
    Calls Try.prog 29 #[.slice A xs.length c, .func (.func gf) #[] lb] w fun e w' => e = .returned (.bool (decide (0 ≤ ixOf p xs 0))) ∧ Below w.heap.size w w' := by
  have HC := K0 (slices_IndexFunc_rows.calls gf lb eg p A c xs w hr hp)
  clear hr hp
  go_enter Try.func29, Try.ntmps29
  go_wp2_with fail
  refine HC.out.mono ?_
  rintro e w' ⟨rfl, hb'⟩
  go_wp2
  go_ret
  exact ⟨by simp, hb'⟩
abbrev Hd := Option Addr × Nat × Nat
def hdv (x : Hd) : Value := .slice x.1 x.2.1 x.2.2
abbrev kH : Kd Hd := Kd.scalar hdv (fun _ => rfl)
def HdOf (W : World) (h : Hd) (x : List Int) : Prop := h.2.1 = x.length ∧ x.length ≤ h.2.2 ∧ Kd.C (Kd.int .i64) W h.1 x.length x
def HdsOf (W : World) (hs : List Hd) (xs : List (List Int)) : Prop := hs.length = xs.length ∧ ∀ (i : Nat) (h : Hd) (x : List Int), hs[i]? = some h → xs[i]? = some x → HdOf W h x
theorem HdsOf.below {W W' : World} {hs : List Hd} {xs : List (List Int)} (h : HdsOf W hs xs) (hb : Below W.heap.size W W') : HdsOf W' hs xs :=
  ⟨h.1, fun i a b ha hb' => ⟨(h.2 i a b ha hb').1, (h.2 i a b ha hb').2.1, Kd.C_below (h.2 i a b ha hb').2.2 hb⟩⟩
theorem HdsOf.join {W : World} {A : Option Addr} {n : Nat} {hs : List Hd} {xs : List (List Int)} (h : HdsOf W hs xs) (hC : Kd.C kH W A n hs) : Kd.C (Kd.slice 3 (Kd.int .i64)) W A n xs := by
  obtain ⟨h1, h2, h3⟩ := hC
  refine ⟨by rw [← h.1, h1], h2, fun h0 => ?_⟩
  obtain ⟨ad, e, hc⟩ := h3 h0
  refine ⟨ad, e, fun j p hp => ?_⟩
  have hj : j < hs.length := by rw [h.1]; exact (List.getElem?_eq_some_iff.1 hp).1
  obtain ⟨c, hcl, hK, hcc⟩ := hc j hs[j] (List.getElem?_eq_getElem hj)
  obtain ⟨a1, a2, a3⟩ := h.2 j _ _ (List.getElem?_eq_getElem hj) hp
  refine ⟨c, hcl, ⟨_, _, ?_, a2, a3⟩, hcc⟩
  rw [hK, hdv, a1]
theorem HdsOf.part {W : World} {A : Option Addr} {n : Nat} {xs : List (List Int)} (hC : Kd.C (Kd.slice 3 (Kd.int .i64)) W A n xs) : ∃ hs, HdsOf W hs xs ∧ Kd.C kH W A n hs := by
  obtain ⟨h1, h2, h3⟩ := hC
  rcases Nat.eq_zero_or_pos n with h0 | h0
  · have hx : xs = [] := List.eq_nil_of_length_eq_zero (by omega)
    subst hx
    exact ⟨[], ⟨rfl, fun i h x hi => by simp at hi⟩, ⟨by simpa using h1, h2, fun h => absurd h (by omega)⟩⟩
  · obtain ⟨ad, e, hc⟩ := h3 h0
    have hex : ∀ j : Nat, ∃ h : Hd, ∀ p, xs[j]? = some p → HdOf W h p ∧ W.cell? (ad.add (j * 1 + 0)) = some (hdv h) := by
      intro j
      by_cases hj : j < xs.length
      · obtain ⟨c, hcl, ⟨A1, c1, hcs, hle, hr⟩, hcc⟩ := hc j xs[j] (List.getElem?_eq_getElem hj)
        refine ⟨(A1, xs[j].length, c1), fun p hp => ?_⟩
        rw [List.getElem?_eq_getElem hj] at hp
        cases hp
        exact ⟨⟨rfl, hle, hr⟩, hcc 0 _ (by rw [hcs]; rfl)⟩
      · exact ⟨(none, 0, 0), fun p hp => absurd (List.getElem?_eq_some_iff.1 hp).1 hj⟩
    obtain ⟨F, hF⟩ := Classical.axiomOfChoice hex
    refine ⟨(List.range xs.length).map F, ⟨by simp, ?_⟩, by simpa using h1, h2, fun _ => ⟨ad, e, ?_⟩⟩
    · intro i h x hi hx
      have hl : i < xs.length := (List.getElem?_eq_some_iff.1 hx).1
      simp [List.getElem?_map, List.getElem?_range hl] at hi
      rw [← hi]
      exact (hF i x hx).1
    · intro j p hp
      have hl : j < xs.length := by have := (List.getElem?_eq_some_iff.1 hp).1; simpa using this
      simp [List.getElem?_map, List.getElem?_range hl] at hp
      refine ⟨[hdv p], rfl, rfl, fun i u hu => ?_⟩
      cases i with
      | zero =>
        simp only [List.getElem?_cons_zero, Option.some.injEq] at hu
        rw [← hu, ← hp]
        exact (hF j xs[j] (List.getElem?_eq_getElem hl)).2
      | succ i => simp at hu
theorem HdsOf.add {W : World} {hs : List Hd} {xs : List (List Int)} {h : Hd} {x : List Int} (H : HdsOf W hs xs) (h1 : HdOf W h x) : HdsOf W (hs ++ [h]) (xs ++ [x]) := by
  refine ⟨by simp [H.1], fun i a b ha hb => ?_⟩
  rw [List.getElem?_append] at ha hb
  rw [H.1] at ha
  split at ha
  · rename_i hlt
    rw [if_pos hlt] at hb
    exact H.2 i a b ha hb
  · rename_i hlt
    rw [if_neg hlt] at hb
    have h0 : i - xs.length = 0 := by have := (List.getElem?_eq_some_iff.1 hb).1; simp at this; omega
    rw [h0] at ha hb
    simp at ha hb
    rw [← ha, ← hb]
    exact h1
def slices_Index_int_int.l0 : Nat → List Int → Int → Int → Int → Option (Int)
  | 0, _, _, _, _ => none
  | k + 1, x0, x1, x7, x8 => if x8 < x7 then (if 0 ≤ x8 then (if x8 < (x0.length : Int) then (if x1 = (rd x0 x8) then (some x8) else (slices_Index_int_int.l0 k x0 x1 x7 (wrap64 (x8 + 1)))) else (none)) else (none)) else (some (-1))
def slices_Index_int_int.f (k : Nat) (l0 : List Int) (a1 : Int) : Option (Int) := slices_Index_int_int.l0 k l0 a1 (l0.length : Int) 0
set_option maxHeartbeats 8000000 in
set_option maxRecDepth 100000 in
theorem slices_Index_int_int.calls (k : Nat) (A0 : Option Addr) (c0 : Nat) (l0 : List Int) (a1 : Int) (r : Int) (w : World) (hr0 : Kd.C (Kd.int .i64) w A0 l0.length l0) (hc0 : l0.length ≤ c0) (h : slices_Index_int_int.f k l0 a1 = some r) :
    Calls Try.prog 75 #[.slice A0 l0.length c0, .int .i64 a1] w fun e w' => e = .returned (.int .i64 r) ∧ Drawn0 w w' := by
  have HR0 := K0 hr0
  have HC0 := K0 hc0
  clear hr0 hc0
  have H : (slices_Index_int_int.l0 k l0 a1 (l0.length : Int) 0) = some r := h
  clear h
  have H' := K0 H
  clear H
  go_enter Try.func75, Try.ntmps75
  go_wp2
  go_loopg [8] k (fun kq v8 w' => ∃ (x8_1 : Int), v8 = .int .i64 x8_1 ∧ Aside0 (slices_Index_int_int.l0 kq l0 a1 (l0.length : Int) x8_1 = some r) ∧ Aside0 (kq ≤ k) ∧ Drawn0 w w')
  case atStart => exact ⟨(0), (by first | rfl | (simp; done) | (simp [*]; done)), H', ⟨Nat.le_refl _⟩, by repeat (first | exact Drawn0.refl _ | apply Drawn0.step)⟩
  case round =>
    clear H'
    try clear p2
    obtain ⟨x8_1, rfl, HA, HK1, ⟨m1, rfl⟩⟩ := hrel
    cases gk with
    | zero => exact absurd HA.out (by simp [slices_Index_int_int.l0])
    | succ k1 =>
      have H := HA.out
      clear HA
      simp only [slices_Index_int_int.l0] at H
      by_cases c3 : x8_1 < (l0.length : Int)
      · rw [if_pos c3] at H
        have c3b0 : decide (x8_1 < (l0.length : Int)) = true := decide_eq_true c3
        clear c3
        by_cases c4 : 0 ≤ x8_1
        · rw [if_pos c4] at H
          have c4b0 : decide (0 ≤ x8_1) = true := decide_eq_true c4
          clear c4
          by_cases c5 : x8_1 < (l0.length : Int)
          · rw [if_pos c5] at H
            have c5b0 : decide (x8_1 < (l0.length : Int)) = true := decide_eq_true c5
            clear c5
            by_cases c6 : a1 = (rd l0 x8_1)
            · rw [if_pos c6] at H
              have c6b0 : (a1 == (rd l0 x8_1)) = true := beq_iff_eq.mpr c6
              have c6b1 : (a1 != (rd l0 x8_1)) = false := bne_eq_false_iff_eq.mpr c6
              clear c6
              as_aux_lemma =>
                obtain rfl := Option.some.inj H
                have p165 : 0 ≤ (x8_1 : Int) := of_decide_eq_true (by first | (with_reducible assumption) | assumption)
                have q165 : x8_1 < (l0.length : Int) := of_decide_eq_true (by first | (with_reducible assumption) | assumption)
                obtain ⟨ad165, e165, hx165_0⟩ := Kd.at_int HR0.out x8_1 p165 q165
                cases e165
                replace p165 := eq_true p165
                replace q165 := eq_true q165
                go_wp2
                go_ret
                exact ⟨by first | rfl | (simp; done) | (simp [*]; done), by repeat (first | exact Drawn0.refl _ | apply Drawn0.step)⟩
            · rw [if_neg c6] at H
              have c6b0 : (a1 == (rd l0 x8_1)) = false := beq_eq_false_iff_ne.mpr c6
              have c6b1 : (a1 != (rd l0 x8_1)) = true := bne_iff_ne.mpr c6
              as_aux_lemma =>
                have H' := K0 H
                clear H
                have p165 : 0 ≤ (x8_1 : Int) := of_decide_eq_true (by first | (with_reducible assumption) | assumption)
                have q165 : x8_1 < (l0.length : Int) := of_decide_eq_true (by first | (with_reducible assumption) | assumption)
                obtain ⟨ad165, e165, hx165_0⟩ := Kd.at_int HR0.out x8_1 p165 q165
                cases e165
                replace p165 := eq_true p165
                replace q165 := eq_true q165
                go_wp2
                go_roundg k1
                case measure => have := HK1.out; omega
                case rel => exact ⟨(wrap64 (x8_1 + 1)), (by first | rfl | (simp; done) | (simp [*]; done)), H', ⟨by have := HK1.out; omega⟩, by repeat (first | exact Drawn0.refl _ | apply Drawn0.step)⟩
          · rw [if_neg c5] at H
            exact absurd H (by simp)
        · rw [if_neg c4] at H
          exact absurd H (by simp)
      · rw [if_neg c3] at H
        have c3b0 : decide (x8_1 < (l0.length : Int)) = false := decide_eq_false c3
        clear c3
        as_aux_lemma =>
          obtain rfl := Option.some.inj H
          go_wp2
          go_ret
          exact ⟨by first | rfl | (simp; done) | (simp [*]; done), by repeat (first | exact Drawn0.refl _ | apply Drawn0.step)⟩
def slices_Contains_int_int.f (k : Nat) (l0 : List Int) (a1 : Int) : Option (Bool) := (slices_Index_int_int.f k l0 a1).bind fun t166 => (some (decide (t166 ≥ 0)))
set_option maxHeartbeats 8000000 in
set_option maxRecDepth 100000 in
theorem slices_Contains_int_int.calls (k : Nat) (A0 : Option Addr) (c0 : Nat) (l0 : List Int) (a1 : Int) (r : Bool) (w : World) (hr0 : Kd.C (Kd.int .i64) w A0 l0.length l0) (hc0 : l0.length ≤ c0) (h : slices_Contains_int_int.f k l0 a1 = some r) :
    Calls Try.prog 70 #[.slice A0 l0.length c0, .int .i64 a1] w fun e w' => e = .returned (.bool r) ∧ Drawn0 w w' := by
  have HR0 := K0 hr0
  have HC0 := K0 hc0
  clear hr0 hc0
  have H : ((slices_Index_int_int.f k l0 a1).bind fun t166 => (some (decide (t166 ≥ 0)))) = some r := h
  clear h
  replace H := Option.bind_eq_some_iff.mp H
  obtain ⟨t166, A30, H⟩ := H
  replace H : (some (decide (t166 ≥ 0))) = some r := H
  have A3 := K0 A30
  clear A30
  as_aux_lemma =>
    obtain rfl := Option.some.inj H
    go_enter Try.func70, Try.ntmps70
    go_wp2_with (first | ((with_reducible refine gate_callee (f := 75) rfl ?_); refine goesL_ (some 7) rfl rfl Try.func75 (by kernel_rfl) rfl #[.slice A0 l0.length c0, .int .i64 a1] rfl (by (try simp only [List.map_toArray, List.map_cons, List.map_nil]); first | done | rfl | (simp only [List.length_drop, List.length_take]; rfl)) ?_; (with_reducible refine (slices_Index_int_int.calls k _ _ l0 a1 t166 _ ?side1 ?side2 A3.out).mono ?_); (case side1 => repeat (first | exact HR0.out | (with_reducible refine Kd.C_alloc ?_ _) | (with_reducible refine Kd.C_drewN ?_ _) | (with_reducible refine Kd.C_drew ?_))); (case side2 => exact HC0.out); rintro e w' ⟨rfl, ⟨nd, rfl⟩⟩; refine ⟨_, rfl, ?_⟩))
    go_ret
    exact ⟨by first | rfl | (simp; done) | (simp [*]; done), by repeat (first | exact Drawn0.refl _ | apply Drawn0.step)⟩
def lit_Has.f (k : Nat) (l0 : List Int) (a1 : Int) : Option (Bool) := (lit_is.f a1).bind fun t167 => (if t167 = true then ((slices_Contains_int_int.f k l0 a1).bind fun t168 => (some t168)) else (some false))
set_option maxHeartbeats 8000000 in
set_option maxRecDepth 100000 in
theorem lit_Has.calls (k : Nat) (A0 : Option Addr) (c0 : Nat) (l0 : List Int) (a1 : Int) (r : Bool) (w : World) (hr0 : Kd.C (Kd.int .i64) w A0 l0.length l0) (hc0 : l0.length ≤ c0) (h : lit_Has.f k l0 a1 = some r) :
    Calls Try.prog 57 #[.slice A0 l0.length c0, .int .i64 a1] w fun e w' => e = .returned (.bool r) ∧ Drawn0 w w' := by
  have HR0 := K0 hr0
  have HC0 := K0 hc0
  clear hr0 hc0
  have H : ((lit_is.f a1).bind fun t167 => (if t167 = true then ((slices_Contains_int_int.f k l0 a1).bind fun t168 => (some t168)) else (some false))) = some r := h
  clear h
  replace H := Option.bind_eq_some_iff.mp H
  obtain ⟨t167, A30, H⟩ := H
  replace H : (if t167 = true then ((slices_Contains_int_int.f k l0 a1).bind fun t168 => (some t168)) else (some false)) = some r := H
  have A3 := K0 A30
  clear A30
  by_cases c4 : t167 = true
  · subst c4
    have H1 : ((slices_Contains_int_int.f k l0 a1).bind fun t168 => (some t168)) = some r := by rw [if_pos rfl] at H; exact H
    clear H
    have H := H1
    clear H1
    replace H := Option.bind_eq_some_iff.mp H
    obtain ⟨t168, A50, H⟩ := H
    replace H : (some t168) = some r := H
    have A5 := K0 A50
    clear A50
    as_aux_lemma =>
      obtain rfl := Option.some.inj H
      go_enter Try.func57, Try.ntmps57
      go_wp2_with (first | ((with_reducible refine gate_callee (f := 60) rfl ?_); refine goesL_ (some 6) rfl rfl Try.func60 (by kernel_rfl) rfl #[.int .i64 a1] rfl (by (try simp only [List.map_toArray, List.map_cons, List.map_nil]); first | done | rfl | (simp only [List.length_drop, List.length_take]; rfl)) ?_; (with_reducible refine (lit_is.calls a1 true _ A3.out).mono ?_); rintro e w' ⟨rfl, ⟨nd, rfl⟩⟩; refine ⟨_, rfl, ?_⟩) | (go_at_call 70; (with_reducible refine (slices_Contains_int_int.calls k _ _ l0 a1 t168 _ ?side1 ?side2 A5.out).mono ?_); (case side1 => repeat (first | exact HR0.out | (with_reducible refine Kd.C_alloc ?_ _) | (with_reducible refine Kd.C_drewN ?_ _) | (with_reducible refine Kd.C_drew ?_))); (case side2 => exact HC0.out); rintro e w' ⟨rfl, ⟨nd, rfl⟩⟩))
      go_ret
      exact ⟨by first | rfl | (simp; done) | (simp [*]; done), by repeat (first | exact Drawn0.refl _ | apply Drawn0.step)⟩
  · replace c4 := Bool.eq_false_iff.mpr c4
    subst c4
    have H1 : (some false) = some r := by rw [if_neg (show ¬ (false = true) by decide)] at H; exact H
    clear H
    have H := H1
    clear H1
    as_aux_lemma =>
      obtain rfl := Option.some.inj H
      go_enter Try.func57, Try.ntmps57
      go_wp2_with (first | ((with_reducible refine gate_callee (f := 60) rfl ?_); refine goesL_ (some 6) rfl rfl Try.func60 (by kernel_rfl) rfl #[.int .i64 a1] rfl (by (try simp only [List.map_toArray, List.map_cons, List.map_nil]); first | done | rfl | (simp only [List.length_drop, List.length_take]; rfl)) ?_; (with_reducible refine (lit_is.calls a1 false _ A3.out).mono ?_); rintro e w' ⟨rfl, ⟨nd, rfl⟩⟩; refine ⟨_, rfl, ?_⟩))
      go_ret
      exact ⟨by first | rfl | (simp; done) | (simp [*]; done), by repeat (first | exact Drawn0.refl _ | apply Drawn0.step)⟩
mutual
def lit_Pivot.l0 : Nat → List Int → Int → List Int → Int → Int → Option (Int × Bool)
  | 0, _, _, _, _, _ => none
  | k + 1, x1, x6, x9, x10, x11 => if x11 < x10 then (if 0 ≤ x11 then (if x11 < (x9.length : Int) then ((lit_is.f (rd x9 x11)).bind fun t170 => (if t170 = true then ((lit_Has.f k x1 (wrap64 (-(rd x9 x11)))).bind fun t171 => (if t171 = true then ((lit_variable.f (rd x9 x11)).bind fun t172 => (lit_Pivot.j1 k x1 x6 (rd x9 x11) x9 x10 x11 (t172 == x6))) else (lit_Pivot.j1 k x1 x6 (rd x9 x11) x9 x10 x11 true))) else (lit_Pivot.j1 k x1 x6 (rd x9 x11) x9 x10 x11 true))) else (none)) else (none)) else (some (x6, (x6 != 0)))
def lit_Pivot.j1 : Nat → List Int → Int → Int → List Int → Int → Int → Bool → Option (Int × Bool)
  | 0, _, _, _, _, _, _, _ => none
  | k + 1, x1, x6, x8, x9, x10, x11, x30 => if x30 = true then (lit_Pivot.l0 k x1 x6 x9 x10 (wrap64 (x11 + 1))) else (if x6 = 0 then ((lit_variable.f x8).bind fun t173 => (lit_Pivot.l0 k x1 t173 x9 x10 (wrap64 (x11 + 1)))) else (some (0, false)))
end
def lit_Pivot.f (k : Nat) (l0 : List Int) (l1 : List Int) : Option (Int × Bool) := lit_Pivot.l0 k l1 0 l0 (l0.length : Int) 0
set_option maxHeartbeats 8000000 in
set_option maxRecDepth 100000 in
theorem lit_Pivot.calls (k : Nat) (A0 : Option Addr) (c0 : Nat) (l0 : List Int) (A1 : Option Addr) (c1 : Nat) (l1 : List Int) (r1 : Int) (r2 : Bool) (w : World) (hr0 : Kd.C (Kd.int .i64) w A0 l0.length l0) (hc0 : l0.length ≤ c0) (hr1 : Kd.C (Kd.int .i64) w A1 l1.length l1) (hc1 : l1.length ≤ c1) (h : lit_Pivot.f k l0 l1 = some (r1, r2)) :
    Calls Try.prog 56 #[.slice A0 l0.length c0, .slice A1 l1.length c1] w fun e w' => e = .returned (.tuple #[.int .i64 r1, .bool r2]) ∧ Drawn0 w w' := by
  have HR0 := K0 hr0; have HC0 := K0 hc0; clear hr0 hc0; have HR1 := K0 hr1; have HC1 := K0 hc1; clear hr1 hc1
  have H : (lit_Pivot.l0 k l1 0 l0 (l0.length : Int) 0) = some (r1, r2) := h
  clear h
  have H' := K0 H
  clear H
  go_enter Try.func56, Try.ntmps56
  go_wp2
  go_loopg [6, 11] k (fun kq v6 v11 w' => ∃ (x6_1 : Int) (x11_1 : Int), v6 = .int .i64 x6_1 ∧ v11 = .int .i64 x11_1 ∧ Aside0 (lit_Pivot.l0 kq l1 x6_1 l0 (l0.length : Int) x11_1 = some (r1, r2)) ∧ Aside0 (kq ≤ k) ∧ Drawn0 w w')
  case atStart => exact ⟨(0), (0), (by first | rfl | (simp; done) | (simp [*]; done)), (by first | rfl | (simp; done) | (simp [*]; done)), H', ⟨Nat.le_refl _⟩, by repeat (first | exact Drawn0.refl _ | apply Drawn0.step)⟩
  case round =>
    clear H'; try clear c1; try clear p2
    obtain ⟨x6_1, x11_1, rfl, rfl, HA, HK1, ⟨m1, rfl⟩⟩ := hrel
    cases gk with
    | zero => exact absurd HA.out (by simp [lit_Pivot.l0])
    | succ k1 =>
      have H := HA.out
      clear HA
      simp only [lit_Pivot.l0] at H
      by_cases c3 : x11_1 < (l0.length : Int)
      case neg =>
        rw [if_neg c3] at H
        have c3b0 : decide (x11_1 < (l0.length : Int)) = false := decide_eq_false c3
        clear c3
        as_aux_lemma =>
          simp only [Option.some.injEq, Prod.mk.injEq] at H
          obtain ⟨rfl, rfl⟩ := H
          go_wp2
          go_ret2
          exact ⟨by first | rfl | (simp; done) | (simp [*]; done), by repeat (first | exact Drawn0.refl _ | apply Drawn0.step)⟩
      rw [if_pos c3] at H
      have c3b0 : decide (x11_1 < (l0.length : Int)) = true := decide_eq_true c3
      clear c3
      by_cases c4 : 0 ≤ x11_1
      case neg =>
        rw [if_neg c4] at H
        exact absurd H (by simp)
      rw [if_pos c4] at H
      have c4b0 : decide (0 ≤ x11_1) = true := decide_eq_true c4
      clear c4
      by_cases c5 : x11_1 < (l0.length : Int)
      case neg =>
        rw [if_neg c5] at H
        exact absurd H (by simp)
      rw [if_pos c5] at H
      have c5b0 : decide (x11_1 < (l0.length : Int)) = true := decide_eq_true c5
      clear c5; have HC6 := K0 H; clear H
      have p169 : 0 ≤ (x11_1 : Int) := of_decide_eq_true (by first | (with_reducible assumption) | assumption)
      have q169 : x11_1 < (l0.length : Int) := of_decide_eq_true (by first | (with_reducible assumption) | assumption)
      obtain ⟨ad169, e169, hx169_0⟩ := Kd.at_int HR0.out x11_1 p169 q169
      cases e169; replace p169 := eq_true p169; replace q169 := eq_true q169
      go_upto_region 5 with (fail)
      go_cut [30] (fun v30 wc => ∃ (kq : Nat) (x30_5 : Bool), v30 = .bool x30_5 ∧ Aside0 (lit_Pivot.j1 kq l1 x6_1 (rd l0 x11_1) l0 (l0.length : Int) x11_1 x30_5 = some (r1, r2)) ∧ Aside0 (kq ≤ k1) ∧ Drawn0 w wc)
      case first =>
        have H := HC6.out
        clear HC6
        replace H := Option.bind_eq_some_iff.mp H
        obtain ⟨t170, A70, H⟩ := H
        replace H : (if t170 = true then ((lit_Has.f k1 l1 (wrap64 (-(rd l0 x11_1)))).bind fun t171 => (if t171 = true then ((lit_variable.f (rd l0 x11_1)).bind fun t172 => (lit_Pivot.j1 k1 l1 x6_1 (rd l0 x11_1) l0 (l0.length : Int) x11_1 (t172 == x6_1))) else (lit_Pivot.j1 k1 l1 x6_1 (rd l0 x11_1) l0 (l0.length : Int) x11_1 true))) else (lit_Pivot.j1 k1 l1 x6_1 (rd l0 x11_1) l0 (l0.length : Int) x11_1 true)) = some (r1, r2) := H
        have A7 := K0 A70; clear A70
        by_cases c8 : t170 = true
        case neg =>
          replace c8 := Bool.eq_false_iff.mpr c8
          subst c8
          have H1 : (lit_Pivot.j1 k1 l1 x6_1 (rd l0 x11_1) l0 (l0.length : Int) x11_1 true) = some (r1, r2) := by rw [if_neg (show ¬ (false = true) by decide)] at H; exact H
          clear H
          have H := H1
          clear H1
          as_aux_lemma =>
            have H' := K0 H
            clear H
            go_wp2_with (first | ((with_reducible refine gate_callee (f := 60) rfl ?_); refine goesL_ (some 16) rfl rfl Try.func60 (by kernel_rfl) rfl #[.int .i64 (rd l0 x11_1)] rfl (by (try simp only [List.map_toArray, List.map_cons, List.map_nil]); first | done | rfl | (simp only [List.length_drop, List.length_take]; rfl)) ?_; (with_reducible refine (lit_is.calls (rd l0 x11_1) false _ A7.out).mono ?_); rintro e w' ⟨rfl, ⟨nd, rfl⟩⟩; refine ⟨_, rfl, ?_⟩))
            go_meet
            case rel => exact ⟨_, (true), (by first | rfl | (simp; done) | (simp [*]; done)), H', ⟨by have := HK1.out; first | omega | exact Nat.le_refl _⟩, by repeat (first | exact Drawn0.refl _ | apply Drawn0.step)⟩
        subst c8
        have H1 : ((lit_Has.f k1 l1 (wrap64 (-(rd l0 x11_1)))).bind fun t171 => (if t171 = true then ((lit_variable.f (rd l0 x11_1)).bind fun t172 => (lit_Pivot.j1 k1 l1 x6_1 (rd l0 x11_1) l0 (l0.length : Int) x11_1 (t172 == x6_1))) else (lit_Pivot.j1 k1 l1 x6_1 (rd l0 x11_1) l0 (l0.length : Int) x11_1 true))) = some (r1, r2) := by rw [if_pos rfl] at H; exact H
        clear H
        have H := H1
        clear H1
        replace H := Option.bind_eq_some_iff.mp H
        obtain ⟨t171, A90, H⟩ := H
        replace H : (if t171 = true then ((lit_variable.f (rd l0 x11_1)).bind fun t172 => (lit_Pivot.j1 k1 l1 x6_1 (rd l0 x11_1) l0 (l0.length : Int) x11_1 (t172 == x6_1))) else (lit_Pivot.j1 k1 l1 x6_1 (rd l0 x11_1) l0 (l0.length : Int) x11_1 true)) = some (r1, r2) := H
        have A9 := K0 A90; clear A90
        by_cases c10 : t171 = true
        case neg =>
          replace c10 := Bool.eq_false_iff.mpr c10
          subst c10
          have H1 : (lit_Pivot.j1 k1 l1 x6_1 (rd l0 x11_1) l0 (l0.length : Int) x11_1 true) = some (r1, r2) := by rw [if_neg (show ¬ (false = true) by decide)] at H; exact H
          clear H
          have H := H1
          clear H1
          as_aux_lemma =>
            have H' := K0 H
            clear H
            go_wp2_with (first | ((with_reducible refine gate_callee (f := 60) rfl ?_); refine goesL_ (some 16) rfl rfl Try.func60 (by kernel_rfl) rfl #[.int .i64 (rd l0 x11_1)] rfl (by (try simp only [List.map_toArray, List.map_cons, List.map_nil]); first | done | rfl | (simp only [List.length_drop, List.length_take]; rfl)) ?_; (with_reducible refine (lit_is.calls (rd l0 x11_1) true _ A7.out).mono ?_); rintro e w' ⟨rfl, ⟨nd, rfl⟩⟩; refine ⟨_, rfl, ?_⟩) | (go_at_call 57; (with_reducible refine (lit_Has.calls k1 _ _ l1 (wrap64 (-(rd l0 x11_1))) false _ ?side1 ?side2 A9.out).mono ?_); (case side1 => repeat (first | exact HR1.out | (with_reducible refine Kd.C_alloc ?_ _) | (with_reducible refine Kd.C_drewN ?_ _) | (with_reducible refine Kd.C_drew ?_))); (case side2 => exact HC1.out); rintro e w' ⟨rfl, ⟨nd, rfl⟩⟩))
            go_meet
            case rel => exact ⟨_, (true), (by first | rfl | (simp; done) | (simp [*]; done)), H', ⟨by have := HK1.out; first | omega | exact Nat.le_refl _⟩, by repeat (first | exact Drawn0.refl _ | apply Drawn0.step)⟩
        subst c10
        have H1 : ((lit_variable.f (rd l0 x11_1)).bind fun t172 => (lit_Pivot.j1 k1 l1 x6_1 (rd l0 x11_1) l0 (l0.length : Int) x11_1 (t172 == x6_1))) = some (r1, r2) := by rw [if_pos rfl] at H; exact H
        clear H
        have H := H1
        clear H1
        replace H := Option.bind_eq_some_iff.mp H
        obtain ⟨t172, A110, H⟩ := H
        replace H : (lit_Pivot.j1 k1 l1 x6_1 (rd l0 x11_1) l0 (l0.length : Int) x11_1 (t172 == x6_1)) = some (r1, r2) := H
        have A11 := K0 A110; clear A110
        as_aux_lemma =>
          have H' := K0 H
          clear H
          go_wp2_with (first | ((with_reducible refine gate_callee (f := 60) rfl ?_); refine goesL_ (some 16) rfl rfl Try.func60 (by kernel_rfl) rfl #[.int .i64 (rd l0 x11_1)] rfl (by (try simp only [List.map_toArray, List.map_cons, List.map_nil]); first | done | rfl | (simp only [List.length_drop, List.length_take]; rfl)) ?_; (with_reducible refine (lit_is.calls (rd l0 x11_1) true _ A7.out).mono ?_); rintro e w' ⟨rfl, ⟨nd, rfl⟩⟩; refine ⟨_, rfl, ?_⟩) | (go_at_call 57; (with_reducible refine (lit_Has.calls k1 _ _ l1 (wrap64 (-(rd l0 x11_1))) true _ ?side1 ?side2 A9.out).mono ?_); (case side1 => repeat (first | exact HR1.out | (with_reducible refine Kd.C_alloc ?_ _) | (with_reducible refine Kd.C_drewN ?_ _) | (with_reducible refine Kd.C_drew ?_))); (case side2 => exact HC1.out); rintro e w' ⟨rfl, ⟨nd, rfl⟩⟩) | (go_at_call 61; (with_reducible refine (lit_variable.calls (rd l0 x11_1) t172 _ A11.out).mono ?_); rintro e w' ⟨rfl, ⟨nd, rfl⟩⟩))
          go_meet
          case rel => exact ⟨_, ((t172 == x6_1)), (by first | rfl | (simp; done) | (simp [*]; done)), H', ⟨by have := HK1.out; first | omega | exact Nat.le_refl _⟩, by repeat (first | exact Drawn0.refl _ | apply Drawn0.step)⟩
      case rest =>
        clear HC6; try clear c1; try clear p1; try clear q1; try clear hx1; try clear p2; try clear c3; try clear c3b0; try clear c4; try clear c4b0; try clear c5; try clear c5b0; try clear c6; try clear p6; try clear c8; try clear c10; try clear hx169_0; try clear p169; try clear p2; try clear q169
        obtain ⟨kq, x30_5, rfl, HA, HJ5, ⟨mc5, rfl⟩⟩ := hcut
        cases kq with
        | zero => exact absurd HA.out (by simp [lit_Pivot.j1])
        | succ kj5 =>
          have H := HA.out
          clear HA
          simp only [lit_Pivot.j1] at H
          by_cases c12 : x30_5 = true
          case pos =>
            subst c12
            have H1 : (lit_Pivot.l0 kj5 l1 x6_1 l0 (l0.length : Int) (wrap64 (x11_1 + 1))) = some (r1, r2) := by rw [if_pos rfl] at H; exact H
            clear H
            have H := H1
            clear H1
            as_aux_lemma =>
              have H' := K0 H
              clear H
              go_wp2
              go_roundg kj5
              case measure => have := HK1.out; have := HJ5.out; omega
              case rel => exact ⟨(x6_1), (wrap64 (x11_1 + 1)), (by first | rfl | (simp; done) | (simp [*]; done)), (by first | rfl | (simp; done) | (simp [*]; done)), H', ⟨by have := HK1.out; have := HJ5.out; omega⟩, by repeat (first | exact Drawn0.refl _ | apply Drawn0.step)⟩
          replace c12 := Bool.eq_false_iff.mpr c12
          subst c12
          have H1 : (if x6_1 = 0 then ((lit_variable.f (rd l0 x11_1)).bind fun t173 => (lit_Pivot.l0 kj5 l1 t173 l0 (l0.length : Int) (wrap64 (x11_1 + 1)))) else (some (0, false))) = some (r1, r2) := by rw [if_neg (show ¬ (false = true) by decide)] at H; exact H
          clear H
          have H := H1
          clear H1
          by_cases c13 : x6_1 = 0
          case neg =>
            rw [if_neg c13] at H
            have c13b0 : (x6_1 == 0) = false := beq_eq_false_iff_ne.mpr c13
            have c13b1 : (x6_1 != 0) = true := bne_iff_ne.mpr c13
            as_aux_lemma =>
              simp only [Option.some.injEq, Prod.mk.injEq] at H
              obtain ⟨rfl, rfl⟩ := H
              go_wp2
              go_ret2
              exact ⟨by first | rfl | (simp; done) | (simp [*]; done), by repeat (first | exact Drawn0.refl _ | apply Drawn0.step)⟩
          rw [if_pos c13] at H
          have c13b0 : (x6_1 == 0) = true := beq_iff_eq.mpr c13
          have c13b1 : (x6_1 != 0) = false := bne_eq_false_iff_eq.mpr c13
          clear c13
          replace H := Option.bind_eq_some_iff.mp H
          obtain ⟨t173, A140, H⟩ := H
          replace H : (lit_Pivot.l0 kj5 l1 t173 l0 (l0.length : Int) (wrap64 (x11_1 + 1))) = some (r1, r2) := H
          have A14 := K0 A140; clear A140
          as_aux_lemma =>
            have H' := K0 H
            clear H
            go_wp2_with (first | ((with_reducible refine gate_callee (f := 61) rfl ?_); refine goesL_ (some 34) rfl rfl Try.func61 (by kernel_rfl) rfl #[.int .i64 (rd l0 x11_1)] rfl (by (try simp only [List.map_toArray, List.map_cons, List.map_nil]); first | done | rfl | (simp only [List.length_drop, List.length_take]; rfl)) ?_; (with_reducible refine (lit_variable.calls (rd l0 x11_1) t173 _ A14.out).mono ?_); rintro e w' ⟨rfl, ⟨nd, rfl⟩⟩; refine ⟨_, rfl, ?_⟩))
            go_roundg kj5
            case measure => have := HK1.out; have := HJ5.out; omega
            case rel => exact ⟨(t173), (wrap64 (x11_1 + 1)), (by first | rfl | (simp; done) | (simp [*]; done)), (by first | rfl | (simp; done) | (simp [*]; done)), H', ⟨by have := HK1.out; have := HJ5.out; omega⟩, by repeat (first | exact Drawn0.refl _ | apply Drawn0.step)⟩
def lit_Within.l0 : Nat → List Int → List Int → Int → Int → Option (Bool)
  | 0, _, _, _, _ => none
  | k + 1, x1, x7, x8, x9 => if x9 < x8 then (if 0 ≤ x9 then (if x9 < (x7.length : Int) then ((lit_is.f (rd x7 x9)).bind fun t189 => (if t189 = true then ((lit_Has.f k x1 (rd x7 x9)).bind fun t190 => (if t190 = true then (lit_Within.l0 k x1 x7 x8 (wrap64 (x9 + 1))) else (some false))) else (lit_Within.l0 k x1 x7 x8 (wrap64 (x9 + 1))))) else (none)) else (none)) else (some true)
def lit_Within.f (k : Nat) (l0 : List Int) (l1 : List Int) : Option (Bool) := lit_Within.l0 k l1 l0 (l0.length : Int) 0
set_option maxHeartbeats 8000000 in
set_option maxRecDepth 100000 in
theorem lit_Within.calls (k : Nat) (A0 : Option Addr) (c0 : Nat) (l0 : List Int) (A1 : Option Addr) (c1 : Nat) (l1 : List Int) (r : Bool) (w : World) (hr0 : Kd.C (Kd.int .i64) w A0 l0.length l0) (hc0 : l0.length ≤ c0) (hr1 : Kd.C (Kd.int .i64) w A1 l1.length l1) (hc1 : l1.length ≤ c1) (h : lit_Within.f k l0 l1 = some r) :
    Calls Try.prog 59 #[.slice A0 l0.length c0, .slice A1 l1.length c1] w fun e w' => e = .returned (.bool r) ∧ Drawn0 w w' := by
  have HR0 := K0 hr0
  have HC0 := K0 hc0
  clear hr0 hc0
  have HR1 := K0 hr1
  have HC1 := K0 hc1
  clear hr1 hc1
  have H : (lit_Within.l0 k l1 l0 (l0.length : Int) 0) = some r := h
  clear h
  have H' := K0 H
  clear H
  go_enter Try.func59, Try.ntmps59
  go_wp2
  go_loopg [9] k (fun kq v9 w' => ∃ (x9_1 : Int), v9 = .int .i64 x9_1 ∧ Aside0 (lit_Within.l0 kq l1 l0 (l0.length : Int) x9_1 = some r) ∧ Aside0 (kq ≤ k) ∧ Drawn0 w w')
  case atStart => exact ⟨(0), (by first | rfl | (simp; done) | (simp [*]; done)), H', ⟨Nat.le_refl _⟩, by repeat (first | exact Drawn0.refl _ | apply Drawn0.step)⟩
  case round =>
    clear H'
    try clear c1
    try clear p2
    obtain ⟨x9_1, rfl, HA, HK1, ⟨m1, rfl⟩⟩ := hrel
    cases gk with
    | zero => exact absurd HA.out (by simp [lit_Within.l0])
    | succ k1 =>
      have H := HA.out
      clear HA
      simp only [lit_Within.l0] at H
      by_cases c3 : x9_1 < (l0.length : Int)
      · rw [if_pos c3] at H
        have c3b0 : decide (x9_1 < (l0.length : Int)) = true := decide_eq_true c3
        clear c3
        by_cases c4 : 0 ≤ x9_1
        · rw [if_pos c4] at H
          have c4b0 : decide (0 ≤ x9_1) = true := decide_eq_true c4
          clear c4
          by_cases c5 : x9_1 < (l0.length : Int)
          · rw [if_pos c5] at H
            have c5b0 : decide (x9_1 < (l0.length : Int)) = true := decide_eq_true c5
            clear c5
            replace H := Option.bind_eq_some_iff.mp H
            obtain ⟨t189, A60, H⟩ := H
            replace H : (if t189 = true then ((lit_Has.f k1 l1 (rd l0 x9_1)).bind fun t190 => (if t190 = true then (lit_Within.l0 k1 l1 l0 (l0.length : Int) (wrap64 (x9_1 + 1))) else (some false))) else (lit_Within.l0 k1 l1 l0 (l0.length : Int) (wrap64 (x9_1 + 1)))) = some r := H
            have A6 := K0 A60
            clear A60
            by_cases c7 : t189 = true
            · subst c7
              have H1 : ((lit_Has.f k1 l1 (rd l0 x9_1)).bind fun t190 => (if t190 = true then (lit_Within.l0 k1 l1 l0 (l0.length : Int) (wrap64 (x9_1 + 1))) else (some false))) = some r := by rw [if_pos rfl] at H; exact H
              clear H
              have H := H1
              clear H1
              replace H := Option.bind_eq_some_iff.mp H
              obtain ⟨t190, A80, H⟩ := H
              replace H : (if t190 = true then (lit_Within.l0 k1 l1 l0 (l0.length : Int) (wrap64 (x9_1 + 1))) else (some false)) = some r := H
              have A8 := K0 A80
              clear A80
              by_cases c9 : t190 = true
              · subst c9
                have H1 : (lit_Within.l0 k1 l1 l0 (l0.length : Int) (wrap64 (x9_1 + 1))) = some r := by rw [if_pos rfl] at H; exact H
                clear H
                have H := H1
                clear H1
                as_aux_lemma =>
                  have H' := K0 H
                  clear H
                  have p188 : 0 ≤ (x9_1 : Int) := of_decide_eq_true (by first | (with_reducible assumption) | assumption)
                  have q188 : x9_1 < (l0.length : Int) := of_decide_eq_true (by first | (with_reducible assumption) | assumption)
                  obtain ⟨ad188, e188, hx188_0⟩ := Kd.at_int HR0.out x9_1 p188 q188
                  cases e188
                  replace p188 := eq_true p188
                  replace q188 := eq_true q188
                  go_wp2_with (first | ((with_reducible refine gate_callee (f := 60) rfl ?_); refine goesL_ (some 14) rfl rfl Try.func60 (by kernel_rfl) rfl #[.int .i64 (rd l0 x9_1)] rfl (by (try simp only [List.map_toArray, List.map_cons, List.map_nil]); first | done | rfl | (simp only [List.length_drop, List.length_take]; rfl)) ?_; (with_reducible refine (lit_is.calls (rd l0 x9_1) true _ A6.out).mono ?_); rintro e w' ⟨rfl, ⟨nd, rfl⟩⟩; refine ⟨_, rfl, ?_⟩) | (go_at_call 57; (with_reducible refine (lit_Has.calls k1 _ _ l1 (rd l0 x9_1) true _ ?side1 ?side2 A8.out).mono ?_); (case side1 => repeat (first | exact HR1.out | (with_reducible refine Kd.C_alloc ?_ _) | (with_reducible refine Kd.C_drewN ?_ _) | (with_reducible refine Kd.C_drew ?_))); (case side2 => exact HC1.out); rintro e w' ⟨rfl, ⟨nd, rfl⟩⟩))
                  go_roundg k1
                  case measure => have := HK1.out; omega
                  case rel => exact ⟨(wrap64 (x9_1 + 1)), (by first | rfl | (simp; done) | (simp [*]; done)), H', ⟨by have := HK1.out; omega⟩, by repeat (first | exact Drawn0.refl _ | apply Drawn0.step)⟩
              · replace c9 := Bool.eq_false_iff.mpr c9
                subst c9
                have H1 : (some false) = some r := by rw [if_neg (show ¬ (false = true) by decide)] at H; exact H
                clear H
                have H := H1
                clear H1
                as_aux_lemma =>
                  obtain rfl := Option.some.inj H
                  have p188 : 0 ≤ (x9_1 : Int) := of_decide_eq_true (by first | (with_reducible assumption) | assumption)
                  have q188 : x9_1 < (l0.length : Int) := of_decide_eq_true (by first | (with_reducible assumption) | assumption)
                  obtain ⟨ad188, e188, hx188_0⟩ := Kd.at_int HR0.out x9_1 p188 q188
                  cases e188
                  replace p188 := eq_true p188
                  replace q188 := eq_true q188
                  go_wp2_with (first | ((with_reducible refine gate_callee (f := 60) rfl ?_); refine goesL_ (some 14) rfl rfl Try.func60 (by kernel_rfl) rfl #[.int .i64 (rd l0 x9_1)] rfl (by (try simp only [List.map_toArray, List.map_cons, List.map_nil]); first | done | rfl | (simp only [List.length_drop, List.length_take]; rfl)) ?_; (with_reducible refine (lit_is.calls (rd l0 x9_1) true _ A6.out).mono ?_); rintro e w' ⟨rfl, ⟨nd, rfl⟩⟩; refine ⟨_, rfl, ?_⟩) | (go_at_call 57; (with_reducible refine (lit_Has.calls k1 _ _ l1 (rd l0 x9_1) false _ ?side1 ?side2 A8.out).mono ?_); (case side1 => repeat (first | exact HR1.out | (with_reducible refine Kd.C_alloc ?_ _) | (with_reducible refine Kd.C_drewN ?_ _) | (with_reducible refine Kd.C_drew ?_))); (case side2 => exact HC1.out); rintro e w' ⟨rfl, ⟨nd, rfl⟩⟩))
                  go_ret
                  exact ⟨by first | rfl | (simp; done) | (simp [*]; done), by repeat (first | exact Drawn0.refl _ | apply Drawn0.step)⟩
            · replace c7 := Bool.eq_false_iff.mpr c7
              subst c7
              have H1 : (lit_Within.l0 k1 l1 l0 (l0.length : Int) (wrap64 (x9_1 + 1))) = some r := by rw [if_neg (show ¬ (false = true) by decide)] at H; exact H
              clear H
              have H := H1
              clear H1
              as_aux_lemma =>
                have H' := K0 H
                clear H
                have p188 : 0 ≤ (x9_1 : Int) := of_decide_eq_true (by first | (with_reducible assumption) | assumption)
                have q188 : x9_1 < (l0.length : Int) := of_decide_eq_true (by first | (with_reducible assumption) | assumption)
                obtain ⟨ad188, e188, hx188_0⟩ := Kd.at_int HR0.out x9_1 p188 q188
                cases e188
                replace p188 := eq_true p188
                replace q188 := eq_true q188
                go_wp2_with (first | ((with_reducible refine gate_callee (f := 60) rfl ?_); refine goesL_ (some 14) rfl rfl Try.func60 (by kernel_rfl) rfl #[.int .i64 (rd l0 x9_1)] rfl (by (try simp only [List.map_toArray, List.map_cons, List.map_nil]); first | done | rfl | (simp only [List.length_drop, List.length_take]; rfl)) ?_; (with_reducible refine (lit_is.calls (rd l0 x9_1) false _ A6.out).mono ?_); rintro e w' ⟨rfl, ⟨nd, rfl⟩⟩; refine ⟨_, rfl, ?_⟩))
                go_roundg k1
                case measure => have := HK1.out; omega
                case rel => exact ⟨(wrap64 (x9_1 + 1)), (by first | rfl | (simp; done) | (simp [*]; done)), H', ⟨by have := HK1.out; omega⟩, by repeat (first | exact Drawn0.refl _ | apply Drawn0.step)⟩
          · rw [if_neg c5] at H
            exact absurd H (by simp)
        · rw [if_neg c4] at H
          exact absurd H (by simp)
      · rw [if_neg c3] at H
        have c3b0 : decide (x9_1 < (l0.length : Int)) = false := decide_eq_false c3
        clear c3
        as_aux_lemma =>
          obtain rfl := Option.some.inj H
          go_wp2
          go_ret
          exact ⟨by first | rfl | (simp; done) | (simp [*]; done), by repeat (first | exact Drawn0.refl _ | apply Drawn0.step)⟩
def foldM {σ : Type} (f : σ → Int → Option σ) : List Int → σ → Option σ
  | [], s => some s
  | x :: t, s => (f s x).bind (foldM f t)
def markP (n : Nat) (fs : List (List Int)) : Nat → List Int → Int → Option (List Int)
  | 0, _, _ => none
  | m + 1, s, v => if (Lit.int .i64 v).wf = true ∧ s.length < 2199023255552 then (if v ∈ s then some s else if v < (n : Int) then some (v :: s) else if (v - n).toNat < fs.length then foldM (fun s x => markP n fs m s x) (fs.getD (v - n).toNat []) (v :: s) else none) else none
theorem foldM_mono {σ : Type} {f g : σ → Int → Option σ} (h : ∀ s x r, f s x = some r → g s x = some r) : ∀ (l : List Int) (s r : σ), foldM f l s = some r → foldM g l s = some r
  | [], _, _, e => e
  | x :: l, s, r, e => by
    obtain ⟨s1, e1, e2⟩ := Option.bind_eq_some_iff.1 (show (f s x).bind (foldM f l) = some r from e)
    show (g s x).bind (foldM g l) = some r
    rw [h s x s1 e1]
    exact foldM_mono h l s1 r e2
theorem markP_mono (n : Nat) (fs : List (List Int)) : ∀ (m : Nat) (s : List Int) (l : Int) (r : List Int), markP n fs m s l = some r → markP n fs (m + 1) s l = some r
  | 0, s, l, r, h => by simp [markP] at h
  | m + 1, s, l, r, h => by
    unfold markP at h ⊢
    split at h
    · rename_i h0; rw [if_pos h0]
      split at h
      · rename_i h1; rw [if_pos h1]; exact h
      · rename_i h1; rw [if_neg h1]
        split at h
        · rename_i h3; rw [if_pos h3]; exact h
        · rename_i h3; rw [if_neg h3]
          split at h
          · rename_i h4; rw [if_pos h4]
            exact foldM_mono (fun s x r hr => markP_mono n fs m s x r hr) _ _ _ h
          · cases h
    · cases h
def nums25 (P : Nat → Bool) (n : Nat) : List Int := ((List.range n).filter P).map fun v : Nat => (v : Int)
theorem nums25_succ (P : Nat → Bool) (n : Nat) : nums25 P (n + 1) = if P n = true then nums25 P n ++ [(n : Int)] else nums25 P n := by
  unfold nums25
  rw [List.range_succ, List.filter_append, List.map_append]
  by_cases h : P n = true
  · rw [if_pos h, List.filter_cons_of_pos h]; rfl
  · rw [if_neg h, List.filter_cons_of_neg h, List.filter_nil, List.map_nil, List.append_nil]
theorem nums25_le (P : Nat → Bool) (n : Nat) : (nums25 P n).length ≤ n := by
  unfold nums25
  rw [List.length_map]
  have := List.length_filter_le P (List.range n)
  rwa [List.length_range] at this
theorem nums25_step (s : List Int) (n j : Nat) :
    (¬ (j : Int) ∈ s → nums25 (fun v => decide ((v : Int) ∈ s)) (min (j + 1) n) = nums25 (fun v => decide ((v : Int) ∈ s)) (min j n) ∧ nums25 (fun i => decide (((n + i : Nat) : Int) ∈ s)) (j + 1 - n) = nums25 (fun i => decide (((n + i : Nat) : Int) ∈ s)) (j - n)) ∧
    ((j : Int) ∈ s → j < n → nums25 (fun v => decide ((v : Int) ∈ s)) (min (j + 1) n) = nums25 (fun v => decide ((v : Int) ∈ s)) (min j n) ++ [(j : Int)] ∧ nums25 (fun i => decide (((n + i : Nat) : Int) ∈ s)) (j + 1 - n) = nums25 (fun i => decide (((n + i : Nat) : Int) ∈ s)) (j - n)) ∧
    ((j : Int) ∈ s → n ≤ j → nums25 (fun v => decide ((v : Int) ∈ s)) (min (j + 1) n) = nums25 (fun v => decide ((v : Int) ∈ s)) (min j n) ∧ nums25 (fun i => decide (((n + i : Nat) : Int) ∈ s)) (j + 1 - n) = nums25 (fun i => decide (((n + i : Nat) : Int) ∈ s)) (j - n) ++ [((j - n : Nat) : Int)]) := by
  by_cases hj : j < n
  · have e1 : min (j + 1) n = j + 1 := by omega
    have e2 : min j n = j := by omega
    have e3 : j + 1 - n = 0 := by omega
    have e4 : j - n = 0 := by omega
    rw [e1, e2, e3, e4, nums25_succ]
    refine ⟨fun h => ⟨if_neg (by simpa using h), rfl⟩, fun h _ => ⟨if_pos (by simpa using h), rfl⟩, fun _ h => absurd h (by omega)⟩
  · have e1 : min (j + 1) n = n := by omega
    have e2 : min j n = n := by omega
    have e3 : j + 1 - n = (j - n) + 1 := by omega
    have e4 : n + (j - n) = j := by omega
    rw [e1, e2, e3, nums25_succ, e4]
    refine ⟨fun h => ⟨rfl, if_neg (by simpa using h)⟩, fun _ h => absurd h hj, fun h _ => ⟨rfl, if_pos (by simpa using h)⟩⟩
theorem wf25 {j : Nat} (h : j < 9223372036854775808) : (Lit.int .i64 (j : Int)).wf = true := by
  simp only [Lit.wf, Bool.and_eq_true, decide_eq_true_eq]
  have a : IntKind.i64.min = -9223372036854775808 := by decide
  have b : IntKind.i64.max = 9223372036854775807 := by decide
  omega
def byP (c first : Int) : List Int → Int → (Int → Option Int) → (Int → Option Int)
  | [], _, G => G
  | i :: t, k, G => byP c first t (k + 1) (fun x => if x = c + i then some (first + k) else G x)
def idTo (n : Nat) (x : Int) : Option Int := if 0 ≤ x ∧ x < (n : Int) then some x else none
def got25 (G : Int → Option Int) (x : Int) : Int := (G x).getD 0
def heldR (v : Value) : Option (DataW Value × List MemPlace) := some (.held v, [])
def KeysI (D : DataW Value) : Prop := ∃ es, D = .map es ∧ es.Pairwise (fun p q => p.1 ≠ q.1) ∧ ∀ p ∈ es, ∃ x : Int, p.1 = .int .i64 x
def MapI (P : Program) (k : TypeId) (w : World) (b : Nat) (f : Int → Option Value) : Prop :=
  ∃ D, w.ownsMap P k heldR b (Maps.size D) D ∧ KeysI D ∧ ∀ x : Int, Maps.has D (.int .i64 x) = (f x).isSome ∧ ∀ z, D.atKey (.int .i64 x) (.held z) = .held ((f x).getD z)
section
variable {P : Program} {k : TypeId} {w : World} {b : Nat} {f : Int → Option Value}
theorem ownsMap_tight {R : Value → Option (DataW Value × List MemPlace)} {n : Nat} {D : DataW Value} (h : w.ownsMap P k R b n D) : w.ownsMap P k R b (Maps.size D) D := by
  obtain ⟨es, clock, hb, F, hs, rfl⟩ := h
  exact ⟨es, clock, hb, F, by simp [Maps.size, Go.length_sorted], rfl⟩
theorem KeysI.tidy {D : DataW Value} (h : KeysI D) : Maps.Tidy D := by
  obtain ⟨es, e, hp, _⟩ := h
  exact ⟨es, e, hp⟩
theorem mem_insert_lit {x y : Lit × DataW Value} : ∀ {l : List (Lit × DataW Value)}, y ∈ DataW.insert x l → y = x ∨ y ∈ l
  | [], h => by simp [DataW.insert] at h; exact .inl h
  | z :: r, h => by
    unfold DataW.insert at h
    split at h
    · rcases List.mem_cons.1 h with h | h
      · exact .inl h
      · exact .inr h
    · rcases List.mem_cons.1 h with h | h
      · exact .inr (by simp [h])
      · rcases mem_insert_lit h with h | h
        · exact .inl h
        · exact .inr (by simp [h])
theorem KeysI.put {D : DataW Value} (h : KeysI D) (x : Int) (d : DataW Value) : KeysI (D.put (.int .i64 x) d) := by
  obtain ⟨es', e', hp'⟩ := h.tidy.put (k := .int .i64 x) trivial d
  refine ⟨es', e', hp', fun p hp => ?_⟩
  obtain ⟨es, rfl, _, hk⟩ := h
  unfold DataW.put at e'
  injection e' with e'
  rw [← e'] at hp
  rcases mem_insert_lit hp with rfl | hp
  · exact ⟨x, rfl⟩
  · exact hk p (List.mem_filter.1 hp).1
theorem KeysI.del {D : DataW Value} (h : KeysI D) (x : Int) : KeysI (D.del (.int .i64 x)) := by
  obtain ⟨es', e', hp'⟩ := h.tidy.del (.int .i64 x)
  refine ⟨es', e', hp', fun p hp => ?_⟩
  obtain ⟨es, rfl, _, hk⟩ := h
  unfold DataW.del at e'
  injection e' with e'
  rw [← e'] at hp
  exact hk p (List.mem_filter.1 hp).1
theorem nodup_le : ∀ {K L : List Int}, K.Nodup → (∀ x ∈ K, x ∈ L) → K.length ≤ L.length
  | [], _, _, _ => by simp
  | x :: K, L, hn, h => by
    obtain ⟨h1, h2⟩ := List.nodup_cons.1 hn
    have hx := h x (by simp)
    have := nodup_le (K := K) (L := L.erase x) h2 (fun y hy => (List.mem_erase_of_ne (by rintro rfl; exact h1 hy)).2 (h y (by simp [hy])))
    rw [List.length_erase_of_mem hx] at this
    have := List.length_pos_of_mem hx
    rw [List.length_cons]; omega
theorem size_le_cover {D : DataW Value} (hD : KeysI D) (hf : ∀ x : Int, Maps.has D (.int .i64 x) = (f x).isSome) (L : List Int) (hL : ∀ x, (f x).isSome = true → x ∈ L) : Maps.size D ≤ L.length := by
  obtain ⟨es, rfl, hp, hk⟩ := hD
  let g : Lit × DataW Value → Int := fun p => match p.1 with | .int _ x => x | _ => 0
  have hg : ∀ p ∈ es, p.1 = .int .i64 (g p) := fun p hp => by
    obtain ⟨x, e⟩ := hk p hp
    show p.1 = .int .i64 (match p.1 with | .int _ x => x | _ => 0)
    rw [e]
  have hn : (es.map g).Nodup := by
    unfold List.Nodup
    rw [List.pairwise_map]
    refine hp.imp_of_mem fun {p q} hp hq hne e => hne ?_
    rw [hg p hp, hg q hq, e]
  have := nodup_le hn (L := L) (fun x hx => by
    obtain ⟨p, hpm, rfl⟩ := List.mem_map.1 hx
    refine hL _ ?_
    rw [← hf]
    rw [Maps.has_eq, List.any_eq_true]
    exact ⟨p, hpm, by rw [hg p hpm]; simp [Lit.sameKey]⟩)
  simpa [Maps.size] using this
theorem MapI.made (w : World) (P : Program) (k : TypeId) : MapI P k (w.alloc (.map #[] 0)) w.heap.size (fun _ => none) :=
  ⟨.map [], World.ownsMap_made w P k heldR, ⟨[], rfl, List.Pairwise.nil, fun p hp => by cases hp⟩, fun x => ⟨rfl, fun z => rfl⟩⟩
theorem MapI.lt (h : MapI P k w b f) : b < w.heap.size := by
  obtain ⟨D, h, _⟩ := h
  exact h.lt
theorem MapI.block {w' : World} (h : MapI P k w b f) (hb : w'.heap[b]? = w.heap[b]?) : MapI P k w' b f := by
  obtain ⟨D, ⟨es, clock, h1, F, h2⟩, r⟩ := h
  exact ⟨D, ⟨es, clock, hb.trans h1, F, h2⟩, r⟩
theorem MapI.congr {g : Int → Option Value} (h : MapI P k w b f) (e : ∀ x, f x = g x) : MapI P k w b g := by
  rw [← funext e]; exact h
theorem MapI.look {t e : TypeId} (h : MapI P k w b f) (hk : P.underlying k = some (.int .i64)) (ht : P.underlying t = some (.map k e)) {z : Value} (hz : (zeroValue e).run P w = .ok z w) {x : Int} (hx : (Lit.int .i64 x).wf = true) :
    (Instr.lookup t (.map (some b)) (.int .i64 x) false).run P w = .ok ((f x).getD z) w := by
  obtain ⟨D, h, _, hf⟩ := h
  obtain ⟨v, ps, hrun, hv⟩ := h.lookup (Maps.int_keyed hk) ht hz (show heldR z = some (.held z, []) from rfl) (Maps.keyOf_int_mk hk hx)
  rw [(hf x).2 z] at hv
  simp only [heldR, Option.some.injEq, Prod.mk.injEq, DataW.held.injEq] at hv
  rw [hrun, hv.1]
def setI (f : Int → Option Value) (x : Int) (v : Option Value) : Int → Option Value := fun y => if y = x then v else f y
theorem MapI.store {t e : TypeId} (h : MapI P k w b f) (hk : P.underlying k = some (.int .i64)) (ht : P.underlying t = some (.map k e)) {x : Int} (hx : (Lit.int .i64 x).wf = true) (v : Value) (L : List Int) (hL : ∀ x, (f x).isSome = true → x ∈ L) (hn : L.length < 4611686018427387904) :
    ∃ w', (Instr.mapUpdate t (.map (some b)) (.int .i64 x) v).run P w = .ok () w' ∧ MapI P k w' b (setI f x (some v)) ∧ w.grownBy w' (some b) := by
  obtain ⟨D, h, hD, hf⟩ := h
  have hsz := size_le_cover hD (fun x => (hf x).1) L hL
  obtain ⟨w', hrun, hown, hg⟩ := h.update (Maps.int_keyed hk) ht (by unfold maxLen; omega) (Maps.keyOf_int_mk hk hx) (show heldR v = some (.held v, []) from rfl)
  refine ⟨w', hrun, ⟨_, ownsMap_tight hown, hD.put x _, fun y => ?_⟩, hg⟩
  unfold setI
  by_cases e : y = x
  · subst e
    rw [if_pos rfl]
    exact ⟨Maps.has_put_same hD.tidy.isMap (show WideAt.IsKeyLit (.int .i64 y) from trivial) _, fun z => Maps.atKey_put_same hD.tidy.isMap (show WideAt.IsKeyLit (.int .i64 y) from trivial) _ _⟩
  · rw [if_neg e]
    have hne : (Lit.int .i64 y) ≠ .int .i64 x := fun h => e (by injection h)
    rw [Maps.has_put_other hne]
    exact ⟨(hf y).1, fun z => by rw [Maps.atKey_put_other hne]; exact (hf y).2 z⟩
theorem MapI.drop {t e : TypeId} (h : MapI P k w b f) (hk : P.underlying k = some (.int .i64)) (ht : P.underlying t = some (.map k e)) {x : Int} (hx : (Lit.int .i64 x).wf = true) (ty : TypeId) :
    ∃ w', (Builtin.delete_ #[t, k] ty #[.map (some b), .int .i64 x]).run P w = .ok (.tuple #[]) w' ∧ MapI P k w' b (setI f x none) ∧ w.grownBy w' (some b) := by
  obtain ⟨D, h, hD, hf⟩ := h
  obtain ⟨w', hrun, hown, ht'⟩ := h.drop (Maps.int_keyed hk) ht (Maps.keyOf_int_mk hk hx) ty
  refine ⟨w', hrun, ⟨_, ownsMap_tight hown, hD.del x, fun y => ?_⟩, ht'.grown⟩
  unfold setI
  by_cases e : y = x
  · subst e
    rw [if_pos rfl]
    exact ⟨Maps.has_del_same, fun z => Maps.atKey_del_same _⟩
  · rw [if_neg e]
    have hne : (Lit.int .i64 y) ≠ .int .i64 x := fun h => e (by injection h)
    rw [Maps.has_del_other hne]
    exact ⟨(hf y).1, fun z => by rw [Maps.atKey_del_other hne]; exact (hf y).2 z⟩
end
section
variable {P : Program} {w : World} {ops : Array Oper} {rest : List Oper} {o : Oper} {a : Act} {Q : Exit → Act → World → Prop}
theorem wpList_store_I (hg : o.guard = none) (m x v : Operand) (t : TypeId) (hop : o.op = Op.mapUpdate t m x v) (k e : TypeId) (hk : P.underlying k = some (.int .i64)) (ht : P.underlying t = some (.map k e)) (b : Nat) (f : Int → Option Value)
    (hm : a.eval m = .map (some b)) (h : MapI P k w b f) (y : Int) (val : Value) (hx : a.eval x = .int .i64 y) (hv : a.eval v = val) (hy : (Lit.int .i64 y).wf = true) (L : List Int) (hL : ∀ x, (f x).isSome = true → x ∈ L) (hn : L.length < 4611686018427387904)
    (hK : ∀ w', MapI P k w' b (setI f y (some val)) → w.grownBy w' (some b) → wpList P ops Q rest (a.put o.dst undef) w') : wpList P ops Q (o :: rest) a w := by
  refine wpList_plain hg fun K' hK' => ?_
  obtain ⟨w', hrun, r1, r2⟩ := h.store hk ht hy val L hL hn
  unfold Oper.wp
  simp [execOp, hop, hm, hx, hv, hrun, Result.andThen]
  exact hK' _ _ (hK w' r1 r2)
end
theorem results_c2 {P : Program} {fn : Func} {p u : Tmp} {ty : TypeId} (h : fn.results = #[.cell p ty, .tmp u]) (tmps : Array Value) (w : World) (g : Nat) (t : TypeId) (cs : Array Value) (fr : Nat × Nat) (d : TypeDesc)
    (hp : tmps.getD p undef = .pointer (some ⟨g, 0, none⟩)) (hg : w.heap[g]? = some (.cells cs t fr))
    (hu : P.underlying ty = some d) (hd : (match d with | .struct _ | .array _ _ => true | _ => false) = true) (hi : (P.info? ty).map (·.size) = some cs.size) :
    (results fn tmps).run P w = .ok (.tuple #[.agg cs, tmps.getD u undef]) w := by
  have hp' : tmps[p]?.getD undef = .pointer (some ⟨g, 0, none⟩) := by simpa using hp
  simp [results, h, hp', asAddr, run_loadVar_row w g t ty cs fr d hg hu hd hi]
abbrev put2 (w : World) (g : Nat) (v0 v1 : Value) : World := (w.setCell ⟨g, 0, none⟩ v0).setCell ⟨g, 1, none⟩ v1
section
variable {w : World} {g : Nat} {a0 a1 : Value} {t : TypeId}
theorem put2_facts (hx : w.heap[g]? = some (.cells #[a0, a1] t (0, 0))) (v0 v1 : Value) :
    (w.cell? ⟨g, 0, none⟩ = some a0 ∧ w.frozen? ⟨g, 0, none⟩ = false) ∧ ((w.setCell ⟨g, 0, none⟩ v0).cell? ⟨g, 1, none⟩ = some a1 ∧ (w.setCell ⟨g, 0, none⟩ v0).frozen? ⟨g, 1, none⟩ = false) ∧
      (put2 w g v0 v1).heap[g]? = some (.cells #[v0, v1] t (0, 0)) := by
  have h1 := blk_put (cs' := #[v0, a1]) hx 0 v0 rfl
  have h2 := blk_put (cs' := #[v0, v1]) h1 1 v1 rfl
  exact ⟨⟨blk_cell hx 0, blk_frozen hx 0⟩, ⟨blk_cell h1 1, blk_frozen h1 1⟩, h2⟩
theorem put2_far (v0 v1 : Value) (k : Nat) (hk : k ≠ g) : (put2 w g v0 v1).heap[k]? = w.heap[k]? :=
  (Below.heap_setCell _ _ v1 k hk).trans (Below.heap_setCell _ _ v0 k hk)
theorem put2_below {w0 : World} (h : Below w0.heap.size w0 w) (hg : w0.heap.size ≤ g) (v0 v1 : Value) : Below w0.heap.size w0 (put2 w g v0 v1) := (h.setCell hg _).setCell hg _
end
def seen25 (s : List Int) (x : Int) : Option Value := if x ∈ s then some (.bool true) else none
structure MkIn (wl w : World) (gM gC gL gF bM : Nat) (n0 : Int) (A0 : Option Addr) (c0 : Nat) (l0 : List (List Int)) (A1 : Option Addr) (c1 : Nat) (l1 : List S48) (s : List Int) : Prop where
  cM : w.heap[gM]? = some (.cells #[.map (some bM)] 75 (0, 0))
  cC : w.heap[gC]? = some (.cells #[.int .i64 n0, .slice A0 l0.length c0] 24 (0, 0))
  cL : w.heap[gL]? = some (.cells #[.slice A1 l1.length c1] 25 (0, 0))
  cF : w.heap[gF]? = some (.cells #[.func (.func 44) #[] #[.pointer (some ⟨gM, 0, none⟩), .pointer (some ⟨gC, 0, none⟩), .pointer (some ⟨gL, 0, none⟩), .pointer (some ⟨gF, 0, none⟩)]] 76 (0, 0))
  mp : MapI Try.prog 3 w bM (seen25 s)
  bel : Below wl.heap.size wl w
  hi : wl.heap.size ≤ bM
  ne : gM ≠ bM ∧ gC ≠ bM ∧ gL ≠ bM ∧ gF ≠ bM
section
variable {wl w w1 : World} {gM gC gL gF bM : Nat} {n0 : Int} {A0 : Option Addr} {c0 : Nat} {l0 : List (List Int)} {A1 : Option Addr} {c1 : Nat} {l1 : List S48} {s : List Int}
theorem MkIn.below (h : MkIn wl w gM gC gL gF bM n0 A0 c0 l0 A1 c1 l1 s) (hb : Below w.heap.size w w1) : MkIn wl w1 gM gC gL gF bM n0 A0 c0 l0 A1 c1 l1 s :=
  ⟨blk_below h.cM hb, blk_below h.cC hb, blk_below h.cL hb, blk_below h.cF hb, h.mp.block (hb.block _ h.mp.lt), below_step h.bel hb, h.hi, h.ne⟩
theorem MkIn.look (h : MkIn wl w gM gC gL gF bM n0 A0 c0 l0 A1 c1 l1 s) {x : Int} (hx : (Lit.int .i64 x).wf = true) : (Instr.lookup 75 (.map (some bM)) (.int .i64 x) false).run Try.prog w = .ok (.bool (decide (x ∈ s))) w := by
  have := h.mp.look Try.underlying3 Try.underlying75 (z := .bool false) (by kernel_rfl) hx
  rw [this]
  unfold seen25
  by_cases hm : x ∈ s
  · rw [if_pos hm, decide_eq_true hm]; rfl
  · rw [if_neg hm, decide_eq_false hm]; rfl
theorem MkIn.see (h : MkIn wl w gM gC gL gF bM n0 A0 c0 l0 A1 c1 l1 s) {x : Int} (hm : MapI Try.prog 3 w1 bM (setI (seen25 s) x (some (.bool true)))) (hg : w.grownBy w1 (some bM)) : MkIn wl w1 gM gC gL gF bM n0 A0 c0 l0 A1 c1 l1 (x :: s) := by
  obtain ⟨n1, n2, n3, n4⟩ := h.ne
  refine ⟨blk_grown h.cM hg (by simpa using n1), blk_grown h.cC hg (by simpa using n2), blk_grown h.cL hg (by simpa using n3), blk_grown h.cF hg (by simpa using n4), hm.congr (fun y => ?_), h.bel.grown hg h.bel.size (fun k e => by cases e; exact h.hi), h.hi, h.ne⟩
  unfold setI seen25
  by_cases e : y = x
  · rw [if_pos e, if_pos (by rw [e]; simp)]
  · rw [if_neg e]
    by_cases hs : y ∈ s
    · rw [if_pos hs, if_pos (List.mem_cons_of_mem _ hs)]
    · rw [if_neg hs, if_neg (fun h => (List.mem_cons.1 h).elim e hs)]
theorem MkIn.grown (h : MkIn wl w gM gC gL gF bM n0 A0 c0 l0 A1 c1 l1 s) {o : Option Nat} (hg : w.grownBy w1 o) (ho : ∀ k, o = some k → k ≠ gM ∧ k ≠ gC ∧ k ≠ gL ∧ k ≠ gF ∧ k ≠ bM ∧ wl.heap.size ≤ k) : MkIn wl w1 gM gC gL gF bM n0 A0 c0 l0 A1 c1 l1 s :=
  ⟨blk_grown h.cM hg (fun e => (ho _ e.symm).1 rfl), blk_grown h.cC hg (fun e => (ho _ e.symm).2.1 rfl), blk_grown h.cL hg (fun e => (ho _ e.symm).2.2.1 rfl), blk_grown h.cF hg (fun e => (ho _ e.symm).2.2.2.1 rfl), h.mp.block (hg.block bM h.mp.lt (fun e => (ho _ e.symm).2.2.2.2.1 rfl)), h.bel.grown hg h.bel.size (fun k e => (ho k e).2.2.2.2.2), h.hi, h.ne⟩
theorem MkIn.far (h : MkIn wl w gM gC gL gF bM n0 A0 c0 l0 A1 c1 l1 s) {g : Nat} (hg : gM ≠ g ∧ gC ≠ g ∧ gL ≠ g ∧ gF ≠ g ∧ bM ≠ g ∧ wl.heap.size ≤ g) (i : Nat) (v : Value) : MkIn wl (w.setCell ⟨g, i, none⟩ v) gM gC gL gF bM n0 A0 c0 l0 A1 c1 l1 s :=
  ⟨blk_far h.cM hg.1 _, blk_far h.cC hg.2.1 _, blk_far h.cL hg.2.2.1 _, blk_far h.cF hg.2.2.2.1 _, h.mp.block (Below.heap_setCell w _ _ bM hg.2.2.2.2.1), h.bel.setCell hg.2.2.2.2.2 _, h.hi, h.ne⟩
def okN (gM gC gL gF bM gR gO k : Nat) : Prop := k ≠ gM ∧ k ≠ gC ∧ k ≠ gL ∧ k ≠ gF ∧ k ≠ bM ∧ k ≠ gR ∧ k ≠ gO
structure OutIn (wl w : World) (gM gC gL gF bM gR gO : Nat) (n0 : Int) (A0 : Option Addr) (c0 : Nat) (l0 : List (List Int)) (A1 : Option Addr) (c1 : Nat) (l1 : List S48) (s : List Int) (vC vK : Value) (xs ys : List Int) : Prop where
  mi : MkIn wl w gM gC gL gF bM n0 A0 c0 l0 A1 c1 l1 s
  cO : w.heap[gO]? = some (.cells #[vC, vK] 51 (0, 0))
  cR : w.heap[gR]? = some (.cells #[.slice none 0 0, .slice none 0 0] 51 (0, 0))
  c : Kd.R (Kd.int .i64) 3 w wl.heap.size (fun k => okN gM gC gL gF bM gR gO k ∧ some k ≠ vK.ownBlock) vC xs
  k : Kd.R (Kd.int .i64) 3 w wl.heap.size (fun k => okN gM gC gL gF bM gR gO k ∧ some k ≠ vC.ownBlock) vK ys
  ne : gM ≠ gO ∧ gC ≠ gO ∧ gL ≠ gO ∧ gF ≠ gO ∧ bM ≠ gO ∧ wl.heap.size ≤ gO
  nR : gR ≠ gO
section
variable {gR gO : Nat} {vC vK v1 : Value} {xs ys zs : List Int}
theorem OutIn.okNew (h : OutIn wl w gM gC gL gF bM gR gO n0 A0 c0 l0 A1 c1 l1 s vC vK xs ys) {k : Nat} (hk : w.heap.size ≤ k) : okN gM gC gL gF bM gR gO k := by
  have h1 := blk_lt h.mi.cM
  have h2 := blk_lt h.mi.cC
  have h3 := blk_lt h.mi.cL
  have h4 := blk_lt h.mi.cF
  have h5 := h.mi.mp.lt
  have h6 := blk_lt h.cR
  have h7 := blk_lt h.cO
  exact ⟨by omega, by omega, by omega, by omega, by omega, by omega, by omega⟩
theorem OutIn.addC (h : OutIn wl w gM gC gL gF bM gR gO n0 A0 c0 l0 A1 c1 l1 s vC vK xs ys) (hR : Kd.R (Kd.int .i64) 3 w1 wl.heap.size (fun k => (okN gM gC gL gF bM gR gO k ∧ some k ≠ vK.ownBlock) ∨ w.heap.size ≤ k) v1 zs) (hg : w.grownBy w1 vC.ownBlock) (hat : v1.ownBlock = vC.ownBlock ∨ ∃ b, v1.ownBlock = some b ∧ w.heap.size ≤ b) :
    OutIn wl (w1.setCell ⟨gO, 0, none⟩ v1) gM gC gL gF bM gR gO n0 A0 c0 l0 A1 c1 l1 s v1 vK zs ys := by
  have hv : ∀ k, vC.ownBlock = some k → okN gM gC gL gF bM gR gO k := fun k e => (h.c.1 k e).1
  have hm := h.mi.grown hg (fun k e => ⟨(hv k e).1, (hv k e).2.1, (hv k e).2.2.1, (hv k e).2.2.2.1, (hv k e).2.2.2.2.1, Kd.R_base h.c k e⟩)
  have hO := blk_grown h.cO hg (fun e => (hv _ e.symm).2.2.2.2.2.2 rfl)
  have hRr := blk_grown h.cR hg (fun e => (hv _ e.symm).2.2.2.2.2.1 rfl)
  have hlt : ∀ k, vK.ownBlock = some k → k < w.heap.size := fun k e => by
    obtain ⟨inner, ho⟩ := Kd.R_own h.k
    exact own_lt ho k e
  have hc1 : Kd.R (Kd.int .i64) 3 w1 wl.heap.size (fun k => okN gM gC gL gF bM gR gO k ∧ some k ≠ vK.ownBlock) v1 zs := Kd.R_mono hR (fun k hk => hk.elim id (fun hle => ⟨h.okNew hle, fun e => by have := hlt k e.symm; omega⟩))
  have hk1 := Kd.R_after h.k hg hat
  exact ⟨hm.far h.ne 0 v1, blk_put hO 0 v1 rfl, blk_far hRr h.nR _, Kd.R_far hc1 (fun k hk => hk.1.2.2.2.2.2.2) v1, Kd.R_far hk1 (fun k hk => hk.1.2.2.2.2.2.2) v1, h.ne, h.nR⟩
theorem OutIn.addK (h : OutIn wl w gM gC gL gF bM gR gO n0 A0 c0 l0 A1 c1 l1 s vC vK xs ys) (hR : Kd.R (Kd.int .i64) 3 w1 wl.heap.size (fun k => (okN gM gC gL gF bM gR gO k ∧ some k ≠ vC.ownBlock) ∨ w.heap.size ≤ k) v1 zs) (hg : w.grownBy w1 vK.ownBlock) (hat : v1.ownBlock = vK.ownBlock ∨ ∃ b, v1.ownBlock = some b ∧ w.heap.size ≤ b) :
    OutIn wl (w1.setCell ⟨gO, 1, none⟩ v1) gM gC gL gF bM gR gO n0 A0 c0 l0 A1 c1 l1 s vC v1 xs zs := by
  have hv : ∀ k, vK.ownBlock = some k → okN gM gC gL gF bM gR gO k := fun k e => (h.k.1 k e).1
  have hm := h.mi.grown hg (fun k e => ⟨(hv k e).1, (hv k e).2.1, (hv k e).2.2.1, (hv k e).2.2.2.1, (hv k e).2.2.2.2.1, Kd.R_base h.k k e⟩)
  have hO := blk_grown h.cO hg (fun e => (hv _ e.symm).2.2.2.2.2.2 rfl)
  have hRr := blk_grown h.cR hg (fun e => (hv _ e.symm).2.2.2.2.2.1 rfl)
  have hlt : ∀ k, vC.ownBlock = some k → k < w.heap.size := fun k e => by
    obtain ⟨inner, ho⟩ := Kd.R_own h.c
    exact own_lt ho k e
  have hk1 : Kd.R (Kd.int .i64) 3 w1 wl.heap.size (fun k => okN gM gC gL gF bM gR gO k ∧ some k ≠ vC.ownBlock) v1 zs := Kd.R_mono hR (fun k hk => hk.elim id (fun hle => ⟨h.okNew hle, fun e => by have := hlt k e.symm; omega⟩))
  have hc1 := Kd.R_after h.c hg hat
  exact ⟨hm.far h.ne 1 v1, blk_put hO 1 v1 rfl, blk_far hRr h.nR _, Kd.R_far hc1 (fun k hk => hk.1.2.2.2.2.2.2) v1, Kd.R_far hk1 (fun k hk => hk.1.2.2.2.2.2.2) v1, h.ne, h.nR⟩
end
end
def mapV (G : Int → Option Int) (x : Int) : Option Value := (G x).map (Value.int .i64)
def numP (ch : List S48) (G : Int → Option Int) (ks : List Int) : List S48 := ks.map fun i => ⟨(ch.getD i.toNat ⟨[], []⟩).f0, (ch.getD i.toNat ⟨[], []⟩).f1.map (got25 G)⟩
theorem mapV_set {G : Int → Option Int} {x v : Int} (y : Int) : setI (mapV G) x (some (.int .i64 v)) y = mapV (fun y => if y = x then some v else G y) y := by
  unfold setI mapV
  dsimp only
  by_cases e : y = x
  case neg =>
    rw [if_neg e, if_neg e]
  rw [if_pos e, if_pos e]; rfl
def fit25 (n : Nat) (ch : List S48) (ks : List Int) : Prop := n < 549755813888 ∧ ch.length < 549755813888 ∧ ks.length < 549755813888 ∧ (∀ i ∈ ks, 0 ≤ i ∧ i < (ch.length : Int)) ∧ ∀ x ∈ ch, x.f0.length < 17592186044416 ∧ x.f1.length < 17592186044416 ∧ ∀ y ∈ x.f1, (Lit.int .i64 y).wf = true
instance {n : Nat} {ch : List S48} {ks : List Int} : Decidable (fit25 n ch ks) := by unfold fit25; infer_instance
def KeptM (w w' : World) (g bM : Nat) : Prop := g ≤ w'.heap.size ∧ ∀ k, k < g → k ≠ bM → w'.heap[k]? = w.heap[k]?
theorem KeptM.refl (w : World) (bM : Nat) : KeptM w w w.heap.size bM := ⟨Nat.le_refl _, fun _ _ _ => rfl⟩
theorem KeptM.below {w w1 w2 : World} {g bM : Nat} (h : KeptM w w1 g bM) (hb : Below w1.heap.size w1 w2) : KeptM w w2 g bM :=
  ⟨Nat.le_trans h.1 hb.size, fun k hk hne => (hb.block k (Nat.lt_of_lt_of_le hk h.1)).trans (h.2 k hk hne)⟩
theorem KeptM.grown {w w1 w2 : World} {g bM : Nat} {o : Option Nat} (h : KeptM w w1 g bM) (hg : w1.grownBy w2 o) (ho : ∀ k, o = some k → k = bM ∨ g ≤ k) : KeptM w w2 g bM :=
  ⟨Nat.le_trans h.1 hg.size, fun k hk hne => (hg.block k (Nat.lt_of_lt_of_le hk h.1) (fun e => (ho k e.symm).elim hne (fun hle => by omega))).trans (h.2 k hk hne)⟩
theorem KeptM.far {w w1 : World} {g bM x : Nat} (h : KeptM w w1 g bM) (hx : g ≤ x) (i : Nat) (v : Value) : KeptM w (w1.setCell ⟨x, i, none⟩ v) g bM :=
  ⟨by simpa using h.1, fun k hk hne => (Below.heap_setCell w1 ⟨x, i, none⟩ v k (by show k ≠ x; omega)).trans (h.2 k hk hne)⟩
set_option maxRecDepth 100000 in
set_option maxHeartbeats 4000000 in
theorem core_numbered.calls (vC : Value) (Ak : Option Addr) (ck : Nat) (ks : List Int) (A1 : Option Addr) (c1 : Nat) (l1 : List S48) (clauses first : Int) (bM : Nat) (G : Int → Option Int) (Lk : List Int) (wb w : World)
    (hk : Kd.C (Kd.int .i64) wb Ak ks.length ks) (hr1 : Kd.C k48 wb A1 l1.length l1) (hbel : Below wb.heap.size wb w) (hm : MapI Try.prog 3 w bM (mapV G)) (hG : ∀ x, (G x).isSome = true → x ∈ Lk) (hLk : Lk.length + ks.length < 2199023255552)
    (hks : ∀ i ∈ ks, 0 ≤ i ∧ i < (l1.length : Int)) (hc0 : 0 ≤ clauses ∧ clauses + l1.length < 2199023255552) (hf0 : 0 ≤ first ∧ first + ks.length < 2199023255552) (hb : wb.heap.size ≤ bM) (hch : ∀ x ∈ l1, x.f0.length < 17592186044416 ∧ x.f1.length < 17592186044416 ∧ ∀ y ∈ x.f1, (Lit.int .i64 y).wf = true) :
    Calls Try.prog 25 #[.agg #[vC, .slice Ak ks.length ck], .slice A1 l1.length c1, .int .i64 clauses, .int .i64 first, .map (some bM)] w fun e w' => ∃ v, e = .returned v ∧ Kd.R k48 48 w' wb.heap.size (fun k => w.heap.size ≤ k) v (numP l1 (byP clauses first ks 0 G) ks) ∧ Below wb.heap.size wb w' ∧ KeptM w w' w.heap.size bM := by
  have HK := K0 hk; have HR := K0 hr1; have HG := K0 hG; have HKS := K0 hks; have HLK := K0 hLk; have HC0 := K0 hc0; have HF0 := K0 hf0; have HB := K0 hb; have HCH := K0 hch
  have hbig := hk.2.1
  have huN := Try.underlying51
  obtain ⟨W1, hW1⟩ : ∃ W1, w.alloc (.cells #[vC, .slice Ak ks.length ck] 51) = W1 := ⟨_, rfl⟩
  have hb1 : Below w.heap.size w W1 := by rw [← hW1]; exact below_alloc (Below.refl _ _) _
  have n1 := blk_new w (.cells #[vC, .slice Ak ks.length ck] 51)
  rw [hW1] at n1
  have HN1 := K0 n1
  have HB1 := K0 (below_step hbel hb1)
  have HKM := K0 ((KeptM.refl w bM).below hb1)
  have HM := K0 (hm.block (hb1.block _ hm.lt))
  have HX := K0 (show w.heap.size ≠ bM by have := hm.lt; omega)
  have HW1 := K0 hW1
  obtain ⟨g, hg⟩ : ∃ g, w.heap.size = g := ⟨_, rfl⟩
  rw [hg] at HN1 HX HKM
  have HGG := K0 hg; clear hk hr1 hm hG hks hW1 hb1 n1 hbel hLk hc0 hf0 hb hg hch
  go_enter Try.func25, Try.ntmps25
  go_upto_region 1 with fail
  rw [HW1.out, HGG.out]
  clear HW1
  have p1 : W1.cell? ⟨g, 1, none⟩ = some (.slice Ak ks.length ck) := (blk_cell HN1.out 1).trans rfl
  go_wp2
  clear p1
  go_loopg [11, 12, 22] ks.length (fun gg v11 v12 v22 wr => ∃ (j : Nat) (Gj : Int → Option Int) (Lj : List Int), v22 = .int .i64 (j : Int) ∧ Aside0 (j + gg = ks.length) ∧ Aside0 (MapI Try.prog 3 wr bM (mapV Gj)) ∧ Aside0 (Below wb.heap.size wb wr) ∧ Aside0 (wr.heap[g]? = some (.cells #[vC, .slice Ak ks.length ck] 51 (0, 0))) ∧ Aside0 (byP clauses first (ks.drop j) (j : Int) Gj = byP clauses first ks 0 G) ∧ Aside0 ((∀ x, (Gj x).isSome = true → x ∈ Lj) ∧ Lj.length = Lk.length + j) ∧ Aside0 (KeptM w wr g bM))
  case atStart => exact ⟨0, G, Lk, rfl, ⟨by simp⟩, HM, HB1, HN1, ⟨rfl⟩, ⟨HG.out, rfl⟩, HKM⟩
  case round =>
    clear HM HB1 HN1 HKM
    obtain ⟨j, Gj, Lj, rfl, hg, HM, HB1, HN1, HBY, HL, HKM⟩ := hrel
    by_cases hlt : j < ks.length
    case pos =>
      obtain ⟨ad2, e2, x2⟩ := Kd.at_int (Kd.C_below HK.out HB1.out) (j : Int) (by omega) (by omega)
      cases e2
      obtain ⟨y, hy⟩ : ∃ y, ks[j] = y := ⟨_, rfl⟩
      have hrd : rd ks (j : Int) = y := by simp [rd, hlt, hy]
      rw [hrd] at x2
      simp only [Int.toNat_natCast] at x2
      have hby := HBY.out
      rw [List.drop_eq_getElem_cons hlt, hy, byP] at hby
      have HBY2 := K0 hby
      have hyb := HKS.out y (by rw [← hy]; exact List.getElem_mem hlt)
      have hc := HC0.out
      have hf := HF0.out
      have HWK := K0 (show (Lit.int .i64 (clauses + y)).wf = true by
        obtain ⟨n, hn⟩ : ∃ n : Nat, clauses + y = (n : Int) := ⟨(clauses + y).toNat, by omega⟩
        rw [hn]; exact wf25 (by omega))
      have Q0 : ((0 : Int) ≤ (j : Int)) = True := eq_true (by omega)
      have Q1 : ((j : Int) < (ks.length : Int)) = True := eq_true (by omega)
      have Q2 : (j < ks.length) = True := eq_true hlt
      have hd2 : decide ((j : Int) < (ks.length : Int)) = true := decide_eq_true (by omega)
      clear hy hrd hby HBY
      have HKEY := K0 (show ∀ x, (mapV Gj x).isSome = true → x ∈ Lj from fun x hx => HL.out.1 x (by unfold mapV at hx; cases h : Gj x with | none => rw [h] at hx; cases hx | some _ => rfl))
      go_wp2_with (refine wpList_store_I rfl (.tmp 27) (.tmp 30) (.tmp 33) 57 rfl 3 3 Try.underlying3 Try.underlying57 bM (mapV Gj) rfl HM.out (clauses + y) (.int .i64 (first + (j : Int))) rfl rfl HWK.out Lj HKEY.out (by have := HL.out.2; have := HLK.out; omega) ?_; intro w3 hM3 hg3; have HM3 := K0 (hM3.congr mapV_set); have HB3 := K0 (HB1.out.grown hg3 HB1.out.size (fun k e => by cases e; exact HB.out)); have HN3 := K0 (blk_grown HN1.out hg3 (by have := HX.out; simpa using this)); have HKM3 := K0 (HKM.out.grown hg3 (fun k e => by cases e; exact .inl rfl)); clear hM3 hg3)
      clear x2
      go_wp2
      go_roundg (ks.length - (j + 1))
      case measure => have := hg.out; omega
      case rel => exact ⟨j + 1, _, (clauses + y) :: Lj, by simp, ⟨by have := hg.out; omega⟩, HM3, HB3, HN3, ⟨by rw [show (((j + 1 : Nat) : Nat) : Int) = (j : Int) + 1 by omega]; exact HBY2.out⟩, ⟨⟨fun x hx => by
        by_cases e : x = clauses + y
        case pos =>
          rw [e]; exact List.mem_cons_self ..
        rw [if_neg e] at hx
        exact List.mem_cons_of_mem _ (HL.out.1 x hx), by rw [List.length_cons, HL.out.2]; omega⟩⟩, HKM3⟩
    have hd2 : decide ((j : Int) < (ks.length : Int)) = false := decide_eq_false (by omega)
    have Q2 : (j < ks.length) = False := eq_false hlt
    have hj : j = ks.length := by have := hg.out; omega
    have hby := HBY.out
    rw [List.drop_of_length_le (by omega), byP] at hby
    subst hby
    have p1 : wr.cell? ⟨g, 1, none⟩ = some (.slice Ak ks.length ck) := (blk_cell HN1.out 1).trans rfl
    clear HBY HL hj
    obtain ⟨G2, hG2⟩ : ∃ G2, byP clauses first ks 0 G = G2 := ⟨_, rfl⟩
    rw [hG2] at HM
    go_wp2
    clear p1
    go_loopg [13, 15, 16, 18, 38, 55] ks.length (fun gg v13 v15 v16 v18 v38 v55 wq => ∃ (j : Nat), v38 = .int .i64 (j : Int) ∧ Aside0 (j + gg = ks.length) ∧ Aside0 (MapI Try.prog 3 wq bM (mapV G2)) ∧ Aside0 (Below wb.heap.size wb wq) ∧ Aside0 (g < wq.heap.size) ∧ Aside0 (Kd.R k48 48 wq wb.heap.size (fun k => g < k ∧ k ≠ bM) v13 (numP l1 G2 (ks.take j))) ∧ Aside0 (KeptM w wq g bM))
    case atStart => exact ⟨0, rfl, ⟨by simp⟩, HM, HB1, ⟨blk_lt HN1.out⟩, ⟨Kd.R_nil _ _ _ _ _⟩, HKM⟩
    case round =>
      clear HM HB1 HN1 HKM
      obtain ⟨j, rfl, hg, HM, HB1, HGS, HO, HKM⟩ := hrel
      by_cases hlt : j < ks.length
      case neg =>
        have hd2 : decide ((j : Int) < (ks.length : Int)) = false := decide_eq_false (by omega)
        have Q2 : (j < ks.length) = False := eq_false hlt
        have ho := HO.out
        rw [List.take_of_length_le (by omega)] at ho
        have HO9 := K0 ho; clear ho HO
        go_wp2
        go_ret
        exact ⟨_, rfl, by rw [hG2]; exact Kd.R_mono HO9.out (fun k hk => by rw [HGG.out]; exact Nat.le_of_lt hk.1), HB1.out, by rw [HGG.out]; exact HKM.out⟩
      obtain ⟨ad2, e2, x2⟩ := Kd.at_int (Kd.C_below HK.out HB1.out) (j : Int) (by omega) (by omega)
      cases e2
      obtain ⟨y0, hy0⟩ : ∃ y, ks[j] = y := ⟨_, rfl⟩
      have hyb := HKS.out y0 (by rw [← hy0]; exact List.getElem_mem hlt)
      obtain ⟨y, rfl⟩ : ∃ y : Nat, y0 = (y : Int) := ⟨y0.toNat, by omega⟩
      have hrd : rd ks (j : Int) = (y : Int) := by simp [rd, hlt, hy0]
      rw [hrd] at x2
      simp only [Int.toNat_natCast] at x2
      have hyl : y < l1.length := by omega
      obtain ⟨ad, B0, k0, B1, k1, e1, x1, x3, hl0, hC0, hl1, hC1⟩ := at_T48 HR.out (y : Int) (by omega) (by omega)
      cases e1
      obtain ⟨z, hz⟩ : ∃ z, l1[y] = z := ⟨_, rfl⟩
      have hrd2 : rd_T48 l1 (y : Int) = z := by rw [← hz]; simp [rd_T48, hyl]
      rw [hrd2] at x1 x3 hl0 hC0 hl1 hC1
      simp only [Int.toNat_natCast] at x1 x3
      have Q0 : ((0 : Int) ≤ (j : Int)) = True := eq_true (by omega)
      have Q1 : ((j : Int) < (ks.length : Int)) = True := eq_true (by omega)
      have Q2 : (j < ks.length) = True := eq_true hlt
      have R0 : ((0 : Int) ≤ (y : Int)) = True := eq_true (by omega)
      have R1 : ((y : Int) < (l1.length : Int)) = True := eq_true (by omega)
      have R2 : (y < l1.length) = True := eq_true hyl
      have hd2 : decide ((j : Int) < (ks.length : Int)) = true := decide_eq_true (by omega)
      have HZ := K0 hz; have HY0 := K0 hy0; have HC1w := K0 hC1
      replace x1 := (HB1.out.cell (World.block_lt_of_cell? wb _ x1)).trans x1
      replace x3 := (HB1.out.cell (World.block_lt_of_cell? wb _ x3)).trans x3
      replace hC0 := Kd.C_below hC0 HB1.out
      replace hC1 := Kd.C_below hC1 HB1.out
      have HC1 := K0 hC1; have HX3 := K0 x3
      have HZC := K0 (HCH.out z (by rw [← hz]; exact List.getElem_mem hyl))
      have HCL := K0 (slices_Clone_int.calls B0 k0 z.f0 _ hC0 hl0 HZC.out.1)
      clear hrd hrd2 hy0 hz hC0 hC1 x3 hyb
      go_wp2_with fail
      refine HCL.out.mono ?_
      rintro e' w3 ⟨v3, rfl, r3, hb3⟩
      obtain ⟨A3, k3, e3⟩ := Kd.R_slice r3
      subst e3
      have HB3 := K0 (below_step HB1.out hb3)
      have HKM3 := K0 (HKM.out.below hb3)
      have HM3 := K0 (HM.out.block (hb3.block _ HM.out.lt))
      obtain ⟨sz, hsz⟩ : ∃ z, wr.heap.size = z := ⟨_, rfl⟩
      have HO3 := K0 (show Kd.R k48 48 w3 wb.heap.size (fun k => (g < k ∧ k ≠ bM) ∧ k < sz) u13 (numP l1 G2 (ks.take j)) from Kd.R_mono (Kd.R_below (Kd.R_bound HO.out) hb3) (fun k hk => ⟨hk.1, by rw [← hsz]; exact hk.2.2.1⟩))
      have HSZ3 := K0 (show g < sz ∧ bM < sz ∧ sz ≤ w3.heap.size by rw [← hsz]; exact ⟨HGS.out, HM.out.lt, hb3.size⟩)
      have HR3 := K0 (show Kd.R (Kd.int .i64) 3 w3 wb.heap.size (fun k => sz ≤ k ∧ k < w3.heap.size) (.slice A3 z.f0.length k3) z.f0 from Kd.R_mono (Kd.R_lower (Kd.R_bound r3) HB1.out.size) (fun k hk => ⟨by rw [← hsz]; exact hk.2.1, hk.2.2.1⟩))
      have HX4 := K0 (pw_cell_below hb3 HX3.out)
      have HC4 := K0 (Kd.C_below HC1.out hb3)
      clear r3 hb3 HCL x1 x2 HX3 HC1 HM HO HB1 HKM
      go_upto_region 11 with fail
      obtain ⟨W4, hW4⟩ : ∃ W4, w3.alloc (.cells #[.slice A3 z.f0.length k3, .slice none 0 0] 48) = W4 := ⟨_, rfl⟩
      have hb4 : Below w3.heap.size w3 W4 := by rw [← hW4]; exact below_alloc (Below.refl _ _) _
      have n4 := blk_new w3 (.cells #[.slice A3 z.f0.length k3, .slice none 0 0] 48)
      rw [hW4] at n4 ⊢
      have HSZ := K0 HB3.out.size
      obtain ⟨gX, hgX⟩ : ∃ g, w3.heap.size = g := ⟨_, rfl⟩
      rw [hgX] at n4 HR3 HSZ3 ⊢
      have HGX := K0 hgX; have HN4 := K0 n4
      have HB4 := K0 (below_step HB3.out hb4)
      have HKM4 := K0 (HKM3.out.below hb4)
      have HM4 := K0 (HM3.out.block (hb4.block _ HM3.out.lt))
      have HO4 := K0 (Kd.R_below HO3.out hb4)
      have HR4 := K0 (Kd.R_below HR3.out hb4)
      have x5 := pw_cell_below hb4 HX4.out
      have HC5 := K0 (Kd.C_below HC4.out hb4)
      have hbigF := HC5.out.2.1
      clear hW4 hb4 n4 HX4 HC4 HB3 HM3 HO3 HR3 hgX HKM3
      go_wp2
      clear x5
      go_loopg [18, 55] z.f1.length (fun gg v18 v55 wi => ∃ (i : Nat) (vB : Value), v55 = .int .i64 (i : Int) ∧ Aside0 (i + gg = z.f1.length) ∧ Aside0 (MapI Try.prog 3 wi bM (mapV G2)) ∧ Aside0 (Below wb.heap.size wb wi) ∧ Aside0 (wi.heap[gX]? = some (.cells #[.slice A3 z.f0.length k3, vB] 48 (0, 0))) ∧ Aside0 (Kd.R k48 48 wi wb.heap.size (fun k => (g < k ∧ k ≠ bM) ∧ k < sz) u13 (numP l1 G2 (ks.take j))) ∧ Aside0 (Kd.R (Kd.int .i64) 3 wi wb.heap.size (fun k => sz ≤ k ∧ k < gX) (.slice A3 z.f0.length k3) z.f0) ∧ Aside0 (Kd.R (Kd.int .i64) 3 wi wb.heap.size (fun k => gX < k) vB ((z.f1.take i).map (got25 G2))) ∧ Aside0 (KeptM w wi g bM))
      case atStart => exact ⟨0, _, rfl, ⟨by simp⟩, HM4, HB4, HN4, HO4, HR4, ⟨Kd.R_nil _ _ _ _ _⟩, HKM4⟩
      case round =>
        clear HM4 HB4 HN4 HO4 HR4 HKM4
        obtain ⟨i, vB, rfl, hgi, HMi, HBi, HNi, HOi, HRi, HV, HKMi⟩ := hrel
        have hsz3 := HSZ3.out
        have hgx := blk_lt HNi.out
        by_cases hlt2 : i < z.f1.length
        case neg =>
          have hd3 : decide ((i : Int) < (z.f1.length : Int)) = false := decide_eq_false (by omega)
          have S2 : (i < z.f1.length) = False := eq_false hlt2
          have hv := HV.out
          rw [List.take_of_length_le (by omega)] at hv
          obtain ⟨A6, k6, e6⟩ := Kd.R_slice hv
          rw [List.length_map] at e6
          subst e6; have HV6 := K0 hv
          have c6 : wr.cell? ⟨gX, 0, none⟩ = some (.slice A3 z.f0.length k3) := (blk_cell HNi.out 0).trans rfl
          have c7 : wr.cell? ⟨gX, 1, none⟩ = some (.slice A6 z.f1.length k6) := (blk_cell HNi.out 1).trans rfl
          have hu48 := Try.underlying48
          have HLN := K0 (show ((numP l1 G2 (ks.take j)).length + 1) * 48 ≤ 140737488355328 by have := HLK.out; unfold numP; rw [List.length_map, List.length_take]; omega)
          have HPM := K0 (k48_mkM wr wb.heap.size (fun k => sz ≤ k) ⟨z.f0, z.f1.map (got25 G2)⟩ (Kd.R_mono HRi.out (fun k hk => hk.1)) (Kd.R_mono HV6.out (fun k hk => by omega)))
          clear hv HV
          go_wp2_with ((with_reducible refine gate_builtin (b := .append) (xs := #[.tmp 68, .tmp 70]) rfl ?_); at_builtin; refine Kd.R_append k48 (w0 := wb) (W := wr) wb.heap.size rfl (.tmp 68) (.tmp 70) 25 48 (.agg #[.slice none 0 0, .slice none 0 0]) 48 rfl Try.underlying25 (by kernel_rfl) rfl (by decide) (by decide) u13 (numP l1 G2 (ks.take j)) ⟨z.f0, z.f1.map (got25 G2)⟩ [.slice A3 z.f0.length k3, .slice A6 z.f1.length k6] (fun k => g < k ∧ k ≠ bM) (fun k => sz ≤ k) rfl rfl HPM.out (fun k hk => ⟨by omega, fun e => by have := (HOi.out.1 k e.symm).2; omega⟩) (fun k hk => by omega) (Kd.R_mono HOi.out (fun k hk => hk.1)) HBi.out HBi.out.size HLN.out ?_; intro v5 w5 r5 hb5 hg5 hat5; have HR5 := K0 r5; have HB5 := K0 hb5; have HM5 := K0 (HMi.out.block (hg5.block bM HMi.out.lt (fun e => (HOi.out.1 bM e.symm).1.2 rfl))); have HS5 := K0 hg5.size; have HKM5 := K0 (HKMi.out.grown hg5 (fun k e => by have := HOi.out.1 k e; omega)); clear r5 hb5 hg5 hat5)
          clear c6 c7
          go_wp2
          go_roundg (ks.length - (j + 1))
          case measure => have := hg.out; omega
          case rel => exact ⟨j + 1, by simp, ⟨by have := hg.out; omega⟩, HM5, HB5, ⟨by have := HS5.out; omega⟩, ⟨by
            rw [show numP l1 G2 (ks.take (j + 1)) = numP l1 G2 (ks.take j) ++ [⟨z.f0, z.f1.map (got25 G2)⟩] by
              unfold numP
              rw [List.take_add_one, List.getElem?_eq_getElem hlt, HY0.out, List.map_append]
              have hyl2 : y < l1.length := by have := R2; simpa using this
              simp [List.getElem?_eq_getElem hyl2, HZ.out]]
            exact HR5.out⟩, HKM5⟩
        obtain ⟨ad3, e3, x6⟩ := Kd.at_int (Kd.C_below HC1w.out HBi.out) (i : Int) (by omega) (by omega)
        cases e3
        obtain ⟨u, hu⟩ : ∃ u, z.f1[i] = u := ⟨_, rfl⟩
        have hrd : rd z.f1 (i : Int) = u := by simp [rd, hlt2, hu]
        rw [hrd] at x6
        simp only [Int.toNat_natCast] at x6
        have hzc := HZC.out
        have huw := hzc.2.2 u (by rw [← hu]; exact List.getElem_mem hlt2)
        have q := HMi.out.look Try.underlying3 Try.underlying57 (z := .int .i64 0) (by kernel_rfl) huw
        rw [show (mapV G2 u).getD (.int .i64 0) = .int .i64 (got25 G2 u) by unfold mapV got25; cases G2 u <;> rfl] at q
        have HTK := K0 (show (z.f1.take (i + 1)).map (got25 G2) = (z.f1.take i).map (got25 G2) ++ [got25 G2 u] by rw [List.take_add_one, List.getElem?_eq_getElem hlt2, hu]; simp)
        have HLN := K0 (show (((z.f1.take i).map (got25 G2)).length + 1) * 8 ≤ 140737488355328 by rw [List.length_map, List.length_take]; omega)
        have c6 : wr.cell? ⟨gX, 1, none⟩ = some vB := (blk_cell HNi.out 1).trans rfl
        have S0 : ((0 : Int) ≤ (i : Int)) = True := eq_true (by omega)
        have S1 : ((i : Int) < (z.f1.length : Int)) = True := eq_true (by omega)
        have S2 : (i < z.f1.length) = True := eq_true hlt2
        have hd3 : decide ((i : Int) < (z.f1.length : Int)) = true := decide_eq_true (by omega)
        clear hu hrd huw hzc
        go_wp2_with ((with_reducible refine gate_builtin (b := .append) (xs := #[.tmp 60, .tmp 64]) rfl ?_); at_builtin; refine Kd.R_append (Kd.int .i64) (w0 := wb) (W := wr) wb.heap.size rfl (.tmp 60) (.tmp 64) 29 3 (.int .i64 0) 8 rfl Try.underlying29 (by kernel_rfl) rfl (by decide) (by decide) vB ((z.f1.take i).map (got25 G2)) (got25 G2 u) [.int .i64 (got25 G2 u)] (fun k => gX < k) (fun _ => False) rfl rfl rfl (fun _ h => h.elim) (fun k hk => by omega) HV.out HBi.out HBi.out.size HLN.out ?_; intro v5 w5 r5 hb5 hg5 hat5; obtain ⟨A5, k5, e5⟩ := Kd.R_slice r5; subst e5; have HR5 := K0 r5; have hne5 : ∀ k, k ≤ gX → some k ≠ vB.ownBlock := (fun k hk e => by have := HV.out.1 k e.symm; omega); have HN5 := K0 (blk_grown HNi.out hg5 (hne5 gX (Nat.le_refl _))); have HM5 := K0 (HMi.out.block (hg5.block bM HMi.out.lt (hne5 bM (by omega)))); have HO5 := K0 (Kd.R_grown HOi.out hg5 (fun k hk e => hne5 k (by omega) e)); have HRA5 := K0 (Kd.R_grown HRi.out hg5 (fun k hk e => hne5 k (by omega) e)); have HB5 := K0 hb5; have HKM5 := K0 (HKMi.out.grown hg5 (fun k e => by have := HV.out.1 k e; have := HSZ3.out; omega)); have c7 : w5.cell? ⟨gX, 1, none⟩ = some vB := (blk_cell HN5.out 1).trans rfl; have f7 : w5.frozen? ⟨gX, 1, none⟩ = false := blk_frozen HN5.out 1; clear r5 hb5 hg5 hat5 hne5)
        clear q x6 c6
        go_wp2
        go_roundg (z.f1.length - (i + 1))
        case measure => have := hgi.out; omega
        case rel => exact ⟨i + 1, _, by simp, ⟨by have := hgi.out; omega⟩, ⟨HM5.out.block (Below.heap_setCell _ _ _ bM (by have := HSZ3.out; show bM ≠ gX; omega))⟩, ⟨HB5.out.setCell (show wb.heap.size ≤ gX by have := HSZ3.out; have := HB.out; omega) _⟩, ⟨blk_put HN5.out 1 _ rfl⟩, ⟨Kd.R_far HO5.out (fun k hk => by show k ≠ gX; have := HSZ3.out; omega) _⟩, ⟨Kd.R_far HRA5.out (fun k hk => by show k ≠ gX; omega) _⟩, ⟨by rw [HTK.out]; exact Kd.R_far (by simpa only [List.length_append, List.length_singleton, List.length_map, List.length_take] using HR5.out) (fun k hk => by show k ≠ gX; omega) _⟩, ⟨HKM5.out.far (by have := HSZ3.out; omega) 1 _⟩⟩
def sequiturref25_empty.l0 : Nat → List (List Int) → Int → Option (Int)
  | 0, _, _ => none
  | k + 1, x0, x3 => if x3 < (x0.length : Int) then (if 0 ≤ x3 then (if ((rd_L3 x0 x3).length : Int) = 0 then (some x3) else (sequiturref25_empty.l0 k x0 (wrap64 (x3 + 1)))) else (none)) else (some (-1))
def sequiturref25_empty.f (k : Nat) (l0 : List (List Int)) : Option (Int) := sequiturref25_empty.l0 k l0 0
set_option maxHeartbeats 8000000 in
set_option maxRecDepth 100000 in
theorem sequiturref25_empty.calls (k : Nat) (A0 : Option Addr) (c0 : Nat) (l0 : List (List Int)) (r : Int) (w : World) (hr0 : Kd.C (Kd.slice 3 (Kd.int .i64)) w A0 l0.length l0) (hc0 : l0.length ≤ c0) (h : sequiturref25_empty.f k l0 = some r) :
    Calls Try.prog 49 #[.slice A0 l0.length c0] w fun e w' => e = .returned (.int .i64 r) ∧ Drawn0 w w' := by
  have HR0 := K0 hr0
  have HC0 := K0 hc0
  clear hr0 hc0
  have H : (sequiturref25_empty.l0 k l0 0) = some r := h
  clear h
  have H' := K0 H
  clear H
  go_enter Try.func49, Try.ntmps49
  go_wp2
  go_loopg [3] k (fun kq v3 w' => ∃ (x3_1 : Int), v3 = .int .i64 x3_1 ∧ Aside0 (sequiturref25_empty.l0 kq l0 x3_1 = some r) ∧ Aside0 (kq ≤ k) ∧ Drawn0 w w')
  case atStart => exact ⟨(0), (by first | rfl | (simp; done) | (simp [*]; done)), H', ⟨Nat.le_refl _⟩, by repeat (first | exact Drawn0.refl _ | apply Drawn0.step)⟩
  case round =>
    clear H'
    obtain ⟨x3_1, rfl, HA, HK1, ⟨m1, rfl⟩⟩ := hrel
    cases gk with
    | zero => exact absurd HA.out (by simp [sequiturref25_empty.l0])
    | succ k1 =>
      have H := HA.out
      clear HA
      simp only [sequiturref25_empty.l0] at H
      by_cases c2 : x3_1 < (l0.length : Int)
      · rw [if_pos c2] at H
        have c2b0 : decide (x3_1 < (l0.length : Int)) = true := decide_eq_true c2
        clear c2
        by_cases c3 : 0 ≤ x3_1
        · rw [if_pos c3] at H
          have c3b0 : decide (0 ≤ x3_1) = true := decide_eq_true c3
          clear c3
          by_cases c4 : ((rd_L3 l0 x3_1).length : Int) = 0
          · rw [if_pos c4] at H
            have c4b0 : (((rd_L3 l0 x3_1).length : Int) == 0) = true := beq_iff_eq.mpr c4
            have c4b1 : (((rd_L3 l0 x3_1).length : Int) != 0) = false := bne_eq_false_iff_eq.mpr c4
            clear c4
            as_aux_lemma =>
              obtain rfl := Option.some.inj H
              have p264 : 0 ≤ (x3_1 : Int) := of_decide_eq_true (by first | (with_reducible assumption) | assumption)
              have q264 : x3_1 < (l0.length : Int) := of_decide_eq_true (by first | (with_reducible assumption) | assumption)
              obtain ⟨ad264, A264_0, c264_0, e264, hx264_0, hl264_0, hi264_0⟩ := at_L3 HR0.out x3_1 p264 q264
              cases e264
              have HR264_0 := K0 hi264_0
              have HC264_0 := K0 hl264_0
              clear hi264_0 hl264_0
              replace p264 := eq_true p264
              replace q264 := eq_true q264
              go_wp2
              go_ret
              exact ⟨by first | rfl | (simp; done) | (simp [*]; done), by repeat (first | exact Drawn0.refl _ | apply Drawn0.step)⟩
          · rw [if_neg c4] at H
            have c4b0 : (((rd_L3 l0 x3_1).length : Int) == 0) = false := beq_eq_false_iff_ne.mpr c4
            have c4b1 : (((rd_L3 l0 x3_1).length : Int) != 0) = true := bne_iff_ne.mpr c4
            have c4b2 : ¬ ((rd_L3 l0 x3_1) = []) := fun h_ => c4 (by rw [h_]; rfl)
            as_aux_lemma =>
              have H' := K0 H
              clear H
              have p264 : 0 ≤ (x3_1 : Int) := of_decide_eq_true (by first | (with_reducible assumption) | assumption)
              have q264 : x3_1 < (l0.length : Int) := of_decide_eq_true (by first | (with_reducible assumption) | assumption)
              obtain ⟨ad264, A264_0, c264_0, e264, hx264_0, hl264_0, hi264_0⟩ := at_L3 HR0.out x3_1 p264 q264
              cases e264
              have HR264_0 := K0 hi264_0
              have HC264_0 := K0 hl264_0
              clear hi264_0 hl264_0
              replace p264 := eq_true p264
              replace q264 := eq_true q264
              go_wp2
              go_roundg k1
              case measure => have := HK1.out; omega
              case rel => exact ⟨(wrap64 (x3_1 + 1)), (by first | rfl | (simp; done) | (simp [*]; done)), H', ⟨by have := HK1.out; omega⟩, by repeat (first | exact Drawn0.refl _ | apply Drawn0.step)⟩
        · rw [if_neg c3] at H
          exact absurd H (by simp)
      · rw [if_neg c2] at H
        have c2b0 : decide (x3_1 < (l0.length : Int)) = false := decide_eq_false c2
        clear c2
        as_aux_lemma =>
          obtain rfl := Option.some.inj H
          go_wp2
          go_ret
          exact ⟨by first | rfl | (simp; done) | (simp [*]; done), by repeat (first | exact Drawn0.refl _ | apply Drawn0.step)⟩
end Go.Proofs.Ytppkeonhbkahmaa.P
