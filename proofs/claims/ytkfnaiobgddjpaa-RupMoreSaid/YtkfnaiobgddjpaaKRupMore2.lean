import Derived.Lib.SliceRun
import Derived.Deep.RegionLaw
import Derived.Shelf.RegionOpenPlain
import Derived.Deep.DeepCutAuto
import Derived.Test.YtkfnaiobgddjpaaKRupMore1
-- Printed by wip/tools/pp.py of this claim's session (over the kit's print.py); Lean checks it.
namespace Go.Proofs.Ytkfnaiobgddjpaa.P
open Go.RowKit Go.Proofs.YtkfnaiobgddjpaaW.PrintWords Go.Proofs.YtkfnaiobgddjpaaW.PrintLast Go.Proofs.YtkfnaiobgddjpaaW.PrintMore
attribute [local go_sem] max2_int min2_int max_two min_two max_three min_three max_four min_four   -- for this text's walks alone
set_option linter.unusedVariables false
set_option linter.unusedSimpArgs false

-- SOLO
-- IMPORTS Derived.Lib.SliceRun Derived.Deep.RegionLaw Derived.Shelf.RegionOpenPlain
/-! ### AUX slicesRows -/
/-- A row's head: where it lies, how long it is, its capacity. -/
abbrev Hd := Option Addr × Nat × Nat
def hdv (x : Hd) : Value := .slice x.1 x.2.1 x.2.2
/-- Rows' heads, one cell each. -/
abbrev kH : Kd Hd := Kd.scalar hdv (fun _ => rfl)
/-- The rows that lie behind heads, in a world. -/
def HdOf (W : World) (h : Hd) (x : List Int) : Prop := h.2.1 = x.length ∧ x.length ≤ h.2.2 ∧ Kd.C (Kd.int .i64) W h.1 x.length x
def HdsOf (W : World) (hs : List Hd) (xs : List (List Int)) : Prop := hs.length = xs.length ∧ ∀ (i : Nat) (h : Hd) (x : List Int), hs[i]? = some h → xs[i]? = some x → HdOf W h x
theorem HdsOf.below {W W' : World} {hs : List Hd} {xs : List (List Int)} (h : HdsOf W hs xs) (hb : Below W.heap.size W W') : HdsOf W' hs xs :=
  ⟨h.1, fun i a b ha hb' => ⟨(h.2 i a b ha hb').1, (h.2 i a b ha hb').2.1, Kd.C_below (h.2 i a b ha hb').2.2 hb⟩⟩
theorem HdsOf.join {W : World} {A : Option Addr} {n : Nat} {hs : List Hd} {xs : List (List Int)} (h : HdsOf W hs xs) (hC : Kd.C kH W A n hs) : Kd.C (Kd.slice 3 (Kd.int .i64)) W A n xs := by
  obtain ⟨h1, h2, h3⟩ := hC
  refine ⟨by rw [← h.1, h1], h2, fun h0 => ?_⟩
  obtain ⟨ad, e, hc⟩ := h3 h0
  refine ⟨ad, e, fun j p hp => ?_⟩
  have hj : j < hs.length := by rw [h.1]; exact (List.getElem?_eq_some_iff.1 hp).1
  obtain ⟨c, hcl, hK, hcc⟩ := hc j hs[j] (List.getElem?_eq_getElem hj)
  obtain ⟨a1, a2, a3⟩ := h.2 j _ _ (List.getElem?_eq_getElem hj) hp
  refine ⟨c, hcl, ⟨_, _, ?_, a2, a3⟩, hcc⟩
  rw [hK, hdv, a1]
theorem HdsOf.part {W : World} {A : Option Addr} {n : Nat} {xs : List (List Int)} (hC : Kd.C (Kd.slice 3 (Kd.int .i64)) W A n xs) : ∃ hs, HdsOf W hs xs ∧ Kd.C kH W A n hs := by
  obtain ⟨h1, h2, h3⟩ := hC
  rcases Nat.eq_zero_or_pos n with h0 | h0
  · have hx : xs = [] := List.eq_nil_of_length_eq_zero (by omega)
    subst hx
    exact ⟨[], ⟨rfl, fun i h x hi => by simp at hi⟩, ⟨by simpa using h1, h2, fun h => absurd h (by omega)⟩⟩
  · obtain ⟨ad, e, hc⟩ := h3 h0
    have hex : ∀ j : Nat, ∃ h : Hd, ∀ p, xs[j]? = some p → HdOf W h p ∧ W.cell? (ad.add (j * 1 + 0)) = some (hdv h) := by
      intro j
      by_cases hj : j < xs.length
      · obtain ⟨c, hcl, ⟨A1, c1, hcs, hle, hr⟩, hcc⟩ := hc j xs[j] (List.getElem?_eq_getElem hj)
        refine ⟨(A1, xs[j].length, c1), fun p hp => ?_⟩
        rw [List.getElem?_eq_getElem hj] at hp
        cases hp
        exact ⟨⟨rfl, hle, hr⟩, hcc 0 _ (by rw [hcs]; rfl)⟩
      · exact ⟨(none, 0, 0), fun p hp => absurd (List.getElem?_eq_some_iff.1 hp).1 hj⟩
    obtain ⟨F, hF⟩ := Classical.axiomOfChoice hex
    refine ⟨(List.range xs.length).map F, ⟨by simp, ?_⟩, by simpa using h1, h2, fun _ => ⟨ad, e, ?_⟩⟩
    · intro i h x hi hx
      have hl : i < xs.length := (List.getElem?_eq_some_iff.1 hx).1
      simp [List.getElem?_map, List.getElem?_range hl] at hi
      rw [← hi]
      exact (hF i x hx).1
    · intro j p hp
      have hl : j < xs.length := by have := (List.getElem?_eq_some_iff.1 hp).1; simpa using this
      simp [List.getElem?_map, List.getElem?_range hl] at hp
      refine ⟨[hdv p], rfl, rfl, fun i u hu => ?_⟩
      cases i with
      | zero =>
        simp only [List.getElem?_cons_zero, Option.some.injEq] at hu
        rw [← hu, ← hp]
        exact (hF j xs[j] (List.getElem?_eq_getElem hl)).2
      | succ i => simp at hu
/-- A run of stores. -/
def setL : List Hd → Nat → List Hd → List Hd
  | xs, _, [] => xs
  | xs, o, y :: t => setL (xs.set o y) (o + 1) t
theorem setL_length : ∀ (ys xs : List Hd) (o : Nat), (setL xs o ys).length = xs.length
  | [], _, _ => rfl
  | y :: t, xs, o => by rw [setL, setL_length t]; simp
theorem setL_take : ∀ (ys xs : List Hd) (o : Nat), (setL xs o ys).take o = xs.take o
  | [], _, _ => rfl
  | y :: t, xs, o => by
    have h := congrArg (List.take o) (setL_take t (xs.set o y) (o + 1))
    rw [List.take_take, List.take_take, Nat.min_eq_left (Nat.le_succ o)] at h
    rw [setL, h, List.take_set_of_le (Nat.le_refl o)]
theorem setL_mid : ∀ (ys xs : List Hd) (o : Nat), o + ys.length ≤ xs.length → (setL xs o ys).take (o + ys.length) = xs.take o ++ ys
  | [], xs, o, _ => by simp [setL]
  | y :: t, xs, o, h => by
    have ht := setL_mid t (xs.set o y) (o + 1) (by simp at h ⊢; omega)
    rw [setL, List.length_cons, show o + (t.length + 1) = o + 1 + t.length by omega, ht]
    simp only [List.length_cons] at h
    rw [List.take_add_one, List.take_set_of_le (Nat.le_refl o), List.getElem?_set_self (by omega)]
    simp
theorem R_sets {e base g n cap : Nat} {ok : Nat → Prop} : ∀ (ys xs : List Hd) (o : Nat) (W : World), Kd.R kH e W base ok (.slice (some ⟨g, 0, none⟩) n cap) xs →
    Kd.R kH e (W.setCells g o (ys.map hdv)) base ok (.slice (some ⟨g, 0, none⟩) n cap) (setL xs o ys) ∧ W.grownBy (W.setCells g o (ys.map hdv)) (some g)
  | [], xs, o, W, h => ⟨h, ⟨rfl, rfl, rfl, Nat.le_refl _, fun _ _ _ => rfl⟩⟩
  | y :: t, xs, o, W, h => by
    obtain ⟨h2, hg⟩ := Kd.R_putg h (o : Int) y
    simp only [Int.toNat_natCast] at h2 hg
    obtain ⟨h3, hg3⟩ := R_sets t (xs.set o y) (o + 1) _ h2
    exact ⟨h3, World.grownBy.trans hg hg3⟩
set_option maxRecDepth 100000 in
set_option maxHeartbeats 4000000 in
theorem slices_Delete_rows.calls (hs : List Hd) (g c i base : Nat) (ok : Nat → Prop) (w : World)
    (hR : Kd.R kH 43 w base ok (.slice (some ⟨g, 0, none⟩) hs.length c) hs) (hi : i < hs.length) (hbase : base ≤ w.heap.size) :
    Calls Try.prog 83 #[.slice (some ⟨g, 0, none⟩) hs.length c, .int .i64 (i : Int), .int .i64 ((i + 1 : Nat) : Int)] w fun e w' =>
      e = .returned (.slice (some ⟨g, 0, none⟩) (hs.length - 1) c) ∧ Kd.R kH 43 w' base ok (.slice (some ⟨g, 0, none⟩) (hs.length - 1) c) (hs.take i ++ hs.drop (i + 1)) ∧ Below base w w' ∧ (∀ k, k < w.heap.size → some k ≠ some g → w'.heap[k]? = w.heap[k]?) ∧ w.heap.size ≤ w'.heap.size := by
  obtain ⟨n, hn⟩ : ∃ n, hs.length = n := ⟨_, rfl⟩
  rw [hn] at hR hi ⊢
  obtain ⟨hn0, hnc, hrd⟩ := Kd.R_reads' hR
  have hbig := hrd.2.1
  obtain ⟨ys, hys⟩ : ∃ ys, ys = hs.drop (i + 1) := ⟨_, rfl⟩
  have hyl : ys.length = n - (i + 1) := by rw [hys, List.length_drop, hn]
  obtain ⟨news, hnews⟩ : ∃ news, news = ys.map hdv := ⟨_, rfl⟩
  have hnl : news.length = n - (i + 1) := by rw [hnews, List.length_map, hyl]
  obtain ⟨A, hA, hsrc⟩ : ∃ A : Addr, (if c = i + 1 then (some (⟨g, 0, none⟩ : Addr)) else some ⟨g, i + 1, none⟩) = some A ∧ Aside0 (∀ t u, news[t]? = some u → w.drew.cell? (A.add t) = some u) := by
    by_cases h : c = i + 1
    · refine ⟨⟨g, 0, none⟩, by simp [h], ⟨fun t u hu => ?_⟩⟩
      have h0 : news.length = 0 := by rw [hnl]; omega
      rw [List.length_eq_zero_iff.1 h0] at hu
      simp at hu
    · refine ⟨⟨g, i + 1, none⟩, by simp [h], ⟨fun t u hu => ?_⟩⟩
      have ht : t < n - (i + 1) := by
        have := (List.getElem?_eq_some_iff.1 hu).1
        rwa [hnl] at this
      rw [hnews, hys, List.getElem?_map, List.getElem?_drop] at hu
      have hlt : i + 1 + t < hs.length := by omega
      rw [List.getElem?_eq_getElem hlt] at hu
      simp only [Option.map_some, Option.some.injEq] at hu
      obtain ⟨h1, _⟩ := Kd.R_celln ((none, 0, 0) : Hd) hR ((i + 1 + t : Nat) : Int) (by omega) (by omega)
      simp only [Int.toNat_natCast, rdOf, List.getD_eq_getElem?_getD, List.getElem?_eq_getElem hlt, Option.getD_some] at h1
      rw [← hu, add_at]
      exact h1
  have s1 : Aside0 (news.length = (n - (i + 1)) * 1) := ⟨by rw [Nat.mul_one]; exact hnl⟩
  have s2 : Aside0 (∀ u ∈ news, u.oneCell' = true) := ⟨by
    intro u hu
    rw [hnews] at hu
    obtain ⟨x, _, rfl⟩ := List.mem_map.1 hu
    rfl⟩
  have s3 : Aside0 (∀ t, t < news.length → (w.drew.cell? ⟨g, 0 + i * 1 + t, none⟩).isSome = true ∧ w.drew.frozen? ⟨g, 0 + i * 1 + t, none⟩ = false) := ⟨by
    intro t ht
    rw [hnl] at ht
    obtain ⟨h1, h2⟩ := Kd.R_celln ((none, 0, 0) : Hd) hR ((i + t : Nat) : Int) (by omega) (by omega)
    simp only [Int.toNat_natCast] at h1 h2
    rw [Nat.mul_one, Nat.zero_add]
    exact ⟨by show (w.cell? _).isSome = true; rw [h1]; rfl, h2⟩⟩
  obtain ⟨W1, hW1⟩ : ∃ W1, W1 = w.drew.setCells g (0 + i * 1) news := ⟨_, rfl⟩
  have hR1 : Kd.R kH 43 W1 base ok (.slice (some ⟨g, 0, none⟩) n c) (setL hs i ys) ∧ w.drew.grownBy W1 (some g) := by
    rw [hW1, hnews, Nat.mul_one, Nat.zero_add]
    exact R_sets ys hs i w.drew (Kd.R_drew hR)
  have hcl : ∀ ty, (Builtin.clear_ #[27] ty #[.slice (some ⟨g, n - 1, none⟩) 1 (c - (n - 1))]).run Try.prog W1 = .ok (.tuple #[]) (W1.setCells g (n - 1) (List.replicate 1 (.slice none 0 0))) :=
    fun ty => Lib.run_clear_slice W1 _ _ ty _ Try.underlying27 Try.zeroValue43 rfl rfl g (n - 1) _ _ (by omega)
      (fun t ht => by obtain ⟨h1, _⟩ := Kd.R_celln ((none, 0, 0) : Hd) hR1.1 ((n - 1 + t : Nat) : Int) (by omega) (by omega); simp only [Int.toNat_natCast] at h1; rw [h1]; rfl)
      (fun t ht => by obtain ⟨_, h1⟩ := Kd.R_celln ((none, 0, 0) : Hd) hR1.1 ((n - 1 + t : Nat) : Int) (by omega) (by omega); simpa only [Int.toNat_natCast] using h1)
  have hsum : i + (n - (i + 1)) = n - 1 := by omega
  have hone : n - (n - 1) = 1 := by omega
  have mixed : Try.prog.follows .mixedOrders = true := by kernel_rfl
  have Q0 : ((0 : Int) ≤ (i : Int) + 1) = True := eq_true (by omega)
  have Q1 : ((i : Int) + 1 ≤ (n : Int)) = True := eq_true (by omega)
  have Q2 : ((i : Int) ≤ (n : Int)) = True := eq_true (by omega)
  have HS := Aside0.mk hsum
  have HW1 := Aside0.mk hW1
  have HR1 := Aside0.mk hR1
  have HH := Aside0.mk hR
  have HY := Aside0.mk hys
  have HYL := Aside0.mk hyl
  have HN := Aside0.mk hn
  have hic : i ≤ c := by omega
  have hjc : i + 1 ≤ c := by omega
  clear hW1 hR1 hR hys hnews hnl hrd hn hyl hn0
  obtain ⟨i0, hi0, hz1⟩ : ∃ i0, Try.prog.info? 43 = some i0 ∧ i0.size = 1 := by
    have hi : (Try.prog.info? 43).map (fun i => i.size) = some 1 := by kernel_rfl
    obtain ⟨i0, h1, h2⟩ := Option.map_eq_some_iff.1 hi
    exact ⟨i0, h1, h2⟩
  go_enter Try.func83, Try.ntmps83
  go_wp2_with fail
  go_region_law_o (refine step_append_room rfl (.tmp 22) (.tmp 25) 27 rfl 43 i0 1 Try.underlying27 hi0 hz1 g 0 i c (by simp [Act.eval, Act.put]) A (n - (i + 1)) (c - (i + 1)) news (by simp [Act.eval, Act.put]) s1.out hsrc.out s2.out (by omega) s3.out ?_; rw [← HW1.out])
  go_wp2
  go_ret
  obtain ⟨h2, g2⟩ := R_sets [((none, 0, 0) : Hd)] (setL hs i ys) (n - 1) W1 HR1.out.1
  have h3 := Kd.R_take h2 (m := n - 1) (by rw [setL_length, setL_length, HN.out]; omega)
  have hm := setL_mid ys hs i (by rw [HN.out, HYL.out]; omega)
  rw [HYL.out, HS.out] at hm
  rw [setL_take, hm, HY.out] at h3
  have hgA := World.grownBy.trans HR1.out.2 g2
  have hb0 : Below base w w.drew := below_drew (Below.refl _ _)
  obtain ⟨inner, ho⟩ := Kd.R_own HH.out
  refine ⟨rfl, h3, hb0.grown hgA (show base ≤ w.heap.size from hbase) (fun k e => own_base ho k e), fun k hk hne => (hgA.block k hk hne).trans rfl, ?_⟩
  exact hgA.size
set_option maxRecDepth 100000 in
set_option maxHeartbeats 2000000 in
theorem slices_IndexFunc_rows.calls (gf : Nat) (lb : Array Value) (eg : ∀ args w, (callFunc gf args).run Try.prog w = .ok (.enter gf args) w) (p : List Int → Bool) (A : Option Addr) (c : Nat) (xs : List (List Int)) (w : World)
    (hr : Kd.C (Kd.slice 3 (Kd.int .i64)) w A xs.length xs) (hp : ∀ W, Below w.heap.size w W → ∀ x ∈ xs, ∀ (A1 : Option Addr) (c1 : Nat), x.length ≤ c1 → Kd.C (Kd.int .i64) W A1 x.length x → Calls Try.prog gf (#[.slice A1 x.length c1] ++ lb) W fun e W' => e = .returned (.bool (p x)) ∧ Below W.heap.size W W') :
    Calls Try.prog 81 #[.slice A xs.length c, .func (.func gf) #[] lb] w fun e w' => e = .returned (.int .i64 (ixOf p xs 0)) ∧ Below w.heap.size w w' := by
  have HR := Aside0.mk hr
  have HP := Aside0.mk hp
  have hbig := hr.2.1
  clear hr hp
  go_enter Try.func81, Try.ntmps81
  go_wp2
  go_loopg [5, 8] xs.length (fun gg _ s8 wr => ∃ kk : Nat, s8 = .int .i64 (kk : Int) ∧ Aside0 (kk + gg = xs.length) ∧ Aside0 (Below w.heap.size w wr) ∧ Aside0 (ixOf p xs 0 = ixOf p (xs.drop kk) (kk : Int)))
  case atStart => exact ⟨0, rfl, ⟨by simp⟩, ⟨Below.refl _ _⟩, ⟨rfl⟩⟩
  case round =>
    obtain ⟨kk, rfl, hg, hb, hx⟩ := hrel
    by_cases hlt : kk < xs.length
    · obtain ⟨ad, A1, c1, e1, x1, hl1, hC1⟩ := at_L3 (Kd.C_below HR.out hb.out) (kk : Int) (by omega) (by omega)
      cases e1
      obtain ⟨y, hy⟩ : ∃ y, xs[kk] = y := ⟨_, rfl⟩
      have hrd : rd_L3 xs (kk : Int) = y := by simp [rd_L3, hlt, hy]
      rw [hrd] at x1 hl1 hC1
      simp only [Int.toNat_natCast] at x1
      have hcall := HP.out _ hb.out y (by rw [← hy]; exact List.getElem_mem hlt) A1 c1 hl1 hC1
      have hx2 := hx.out
      rw [ixOf_drop p xs kk hlt, hy] at hx2
      have HX2 := Aside0.mk hx2
      clear hx2 hx hrd hy hC1
      have P0 : ((0 : Int) ≤ (kk : Int)) = True := eq_true (by omega)
      have P1 : ((kk : Int) < (xs.length : Int)) = True := eq_true (by omega)
      have P2 : (kk < xs.length) = True := eq_true hlt
      have hd : decide ((kk : Int) < (xs.length : Int)) = true := decide_eq_true (by omega)
      cases hq : p y with
      | true =>
        rw [hq] at hcall
        have hz := HX2.out
        rw [if_pos hq] at hz
        have HZ := Aside0.mk hz
        clear hz
        go_wp2_with fail
        refine hcall.mono ?_
        rintro e w' ⟨rfl, hb'⟩
        go_wp2
        go_ret
        exact ⟨by rw [HZ.out]; rfl, hb.out.trans (hb'.mono hb.out.size)⟩
      | false =>
        rw [hq] at hcall
        have hz := HX2.out
        rw [if_neg (by rw [hq]; decide)] at hz
        have HZ := Aside0.mk hz
        clear hz
        go_wp2_with fail
        refine hcall.mono ?_
        rintro e w' ⟨rfl, hb'⟩
        go_wp2
        go_roundg (xs.length - (kk + 1))
        case measure => have := hg.out; omega
        case rel => exact ⟨kk + 1, by simp, ⟨by omega⟩, ⟨hb.out.trans (hb'.mono hb.out.size)⟩, HZ⟩
    · have hd : decide ((kk : Int) < (xs.length : Int)) = false := decide_eq_false (by omega)
      have hz := hx.out
      rw [List.drop_of_length_le (by omega), ixOf_nil] at hz
      have HZ := Aside0.mk hz
      clear hz hx
      go_wp2
      go_ret
      exact ⟨by rw [HZ.out]; rfl, hb.out⟩
set_option maxRecDepth 100000 in
set_option maxHeartbeats 2000000 in
theorem slices_Clone_rows.calls (A : Option Addr) (c : Nat) (xs : List Hd) (w : World) (hr : Kd.C kH w A xs.length xs) (hc : xs.length ≤ c) (hl : xs.length < 5864062014805) :
    Calls Try.prog 80 #[.slice A xs.length c] w fun e w' => ∃ v', e = .returned v' ∧ Kd.R kH 43 w' w.heap.size (fun _ => True) v' xs ∧ Below w.heap.size w w' := by
  have HR := Aside0.mk hr
  have HL := Aside0.mk hl
  cases A with
  | none =>
    have h0 : xs = [] := by
      rcases Nat.eq_zero_or_pos xs.length with h | h
      · exact List.eq_nil_of_length_eq_zero h
      · obtain ⟨ad, e, _⟩ := hr.2.2 h
        cases e
    subst h0
    clear hr hl
    have hq := fun W : World => Lib.run_eql_slice_nil (P := Try.prog) W 27 43 none 0 c 0 0 Try.underlying27
    simp only [Option.isNone_none] at hq
    go_enter Try.func80, Try.ntmps80
    go_wp2
    go_ret
    exact ⟨_, rfl, Kd.R_nil _ _ _ _ _, Below.refl _ _⟩
  | some a =>
    clear hr hl
    have hE : Kd.R kH 43 (w.alloc (.cells #[] 43)) w.heap.size (fun _ => True) (.slice (some ⟨w.heap.size, 0, none⟩) 0 0) ([] : List Hd) := Kd.R_of_own (by have := own_lit w w.heap.size 43 .i64 [] (Nat.le_refl _) (by simp); simpa [encs, nums] using this) (fun _ _ => trivial)
    have HE := Aside0.mk hE
    clear hE
    have hq := fun W : World => Lib.run_eql_slice_nil (P := Try.prog) W 27 43 (some a) xs.length c 0 0 Try.underlying27
    simp only [Option.isNone_some] at hq
    go_enter Try.func80, Try.ntmps80
    go_wp2_with (at_builtin; refine Kd.R_append_row hdv ((none, 0, 0) : Hd) (w0 := w) (W := w.alloc (.cells #[] 43)) w.heap.size rfl (.tmp 5) (.tmp 6) 27 43 (.slice none 0 0) 24 rfl Try.underlying27 (by kernel_rfl) rfl (by decide) _ [] xs _ _ _ (fun _ => True) rfl rfl (fun _ _ => trivial) HE.out (Kd.C_below HR.out (below_alloc (Below.refl _ _) _)) (below_alloc (Below.refl _ _) _) (by simp) (by have := HL.out; simp; omega) ?_; intro v1 w1 r1 hb1 hg1 hat1)
    go_ret
    exact ⟨_, rfl, (by have h := r1; rw [List.nil_append] at h; exact h), hb1⟩
set_option maxRecDepth 100000 in
theorem slices_ContainsFunc_rows.calls (gf : Nat) (lb : Array Value) (eg : ∀ args w, (callFunc gf args).run Try.prog w = .ok (.enter gf args) w) (p : List Int → Bool) (A : Option Addr) (c : Nat) (xs : List (List Int)) (w : World)
    (hr : Kd.C (Kd.slice 3 (Kd.int .i64)) w A xs.length xs) (hp : ∀ W, Below w.heap.size w W → ∀ x ∈ xs, ∀ (A1 : Option Addr) (c1 : Nat), x.length ≤ c1 → Kd.C (Kd.int .i64) W A1 x.length x → Calls Try.prog gf (#[.slice A1 x.length c1] ++ lb) W fun e W' => e = .returned (.bool (p x)) ∧ Below W.heap.size W W') :
    Calls Try.prog 65 #[.slice A xs.length c, .func (.func gf) #[] lb] w fun e w' => e = .returned (.bool (decide (0 ≤ ixOf p xs 0))) ∧ Below w.heap.size w w' := by
  have HC := Aside0.mk (slices_IndexFunc_rows.calls gf lb eg p A c xs w hr hp)
  clear hr hp
  go_enter Try.func65, Try.ntmps65
  go_wp2_with fail
  refine HC.out.mono ?_
  rintro e w' ⟨rfl, hb'⟩
  go_wp2
  go_ret
  exact ⟨by simp, hb'⟩


end Go.Proofs.Ytkfnaiobgddjpaa.P

-- Printed by wip/tools/pp.py of this claim's session (over the kit's print.py); Lean checks it.
namespace Go.Proofs.Ytkfnaiobgddjpaa.P
open Go.RowKit Go.Proofs.YtkfnaiobgddjpaaW.PrintWords Go.Proofs.YtkfnaiobgddjpaaW.PrintLast Go.Proofs.YtkfnaiobgddjpaaW.PrintMore
attribute [local go_sem] max2_int min2_int max_two min_two max_three min_three max_four min_four   -- for this text's walks alone
set_option linter.unusedVariables false
set_option linter.unusedSimpArgs false

/-! ### slices_Index_int_int: function 96 -/
def slices_Index_int_int.l0 : Nat → List Int → Int → Int → Int → Option (Int)
  | 0, _, _, _, _ => none
  | k + 1, x0, x1, x7, x8 => if x8 < x7 then (if 0 ≤ x8 then (if x8 < (x0.length : Int) then (if x1 = (rd x0 x8) then (some x8) else (slices_Index_int_int.l0 k x0 x1 x7 (wrap64 (x8 + 1)))) else (none)) else (none)) else (some (-1))
def slices_Index_int_int.f (k : Nat) (l0 : List Int) (a1 : Int) : Option (Int) := slices_Index_int_int.l0 k l0 a1 (l0.length : Int) 0
theorem slices_Index_int_int.mono_l : ∀ k, (∀ y0 y1 y2 y3, LeO (slices_Index_int_int.l0 k y0 y1 y2 y3) (slices_Index_int_int.l0 (k + 1) y0 y1 y2 y3))
  | 0 => fun _ _ _ _ r h => by simp [slices_Index_int_int.l0] at h
  | k + 1 => by
    have ih0 := slices_Index_int_int.mono_l k
    · intro y0 y1 y2 y3
      unfold slices_Index_int_int.l0
      repeat' first
      | (with_reducible exact ih0 _ _ _ _)
      | (with_reducible exact LeO.refl _)
      | (with_reducible exact LeO.none _)
      | (with_reducible refine LeO.ite ?_ ?_)
      | (with_reducible refine LeO.bind ?_ (fun _ => ?_))
      | exact ih0 _ _ _ _
      | exact LeO.none _
      | refine LeO.ite ?_ ?_
      | refine LeO.bind ?_ (fun _ => ?_)
theorem slices_Index_int_int.mono : ∀ a0 a1 k, LeO (slices_Index_int_int.f k a0 a1) (slices_Index_int_int.f (k + 1) a0 a1) := by
  intro a0 a1 k
  have ih0 := slices_Index_int_int.mono_l k
  unfold slices_Index_int_int.f
  repeat' first
      | (with_reducible exact ih0 _ _ _ _)
      | (with_reducible exact LeO.refl _)
      | (with_reducible exact LeO.none _)
      | (with_reducible refine LeO.ite ?_ ?_)
      | (with_reducible refine LeO.bind ?_ (fun _ => ?_))
      | exact ih0 _ _ _ _
      | exact LeO.none _
      | refine LeO.ite ?_ ?_
      | refine LeO.bind ?_ (fun _ => ?_)
set_option maxHeartbeats 8000000 in
set_option maxRecDepth 100000 in
theorem slices_Index_int_int.calls (k : Nat) (A0 : Option Addr) (c0 : Nat) (l0 : List Int) (a1 : Int) (r : Int) (w : World) (hr0 : Kd.C (Kd.int .i64) w A0 l0.length l0) (hc0 : l0.length ≤ c0) (h : slices_Index_int_int.f k l0 a1 = some r) :
    Calls Try.prog 96 #[.slice A0 l0.length c0, .int .i64 a1] w fun e w' => e = .returned (.int .i64 r) ∧ Drawn0 w w' := by
  have HR0 := Aside0.mk hr0
  have HC0 := Aside0.mk hc0
  clear hr0 hc0
  have H : (slices_Index_int_int.l0 k l0 a1 (l0.length : Int) 0) = some r := h
  clear h
  have H' := Aside0.mk H
  clear H
  go_enter Try.func96, Try.ntmps96
  go_wp2
  go_loopg [8] k (fun kq v8 w' => ∃ (x8_1 : Int), v8 = .int .i64 x8_1 ∧ Aside0 (slices_Index_int_int.l0 kq l0 a1 (l0.length : Int) x8_1 = some r) ∧ Aside0 (kq ≤ k) ∧ Drawn0 w w')
  case atStart => exact ⟨(0), (by first | rfl | (simp; done) | (simp [*]; done)), H', ⟨Nat.le_refl _⟩, by repeat (first | exact Drawn0.refl _ | apply Drawn0.step)⟩
  case round =>
    clear H'
    try clear p2
    obtain ⟨x8_1, rfl, HA, HK1, ⟨m1, rfl⟩⟩ := hrel
    cases gk with
    | zero => exact absurd HA.out (by simp [slices_Index_int_int.l0])
    | succ k1 =>
      have H := HA.out
      clear HA
      simp only [slices_Index_int_int.l0] at H
      by_cases c3 : x8_1 < (l0.length : Int)
      · rw [if_pos c3] at H
        have c3b0 : decide (x8_1 < (l0.length : Int)) = true := decide_eq_true c3
        clear c3
        by_cases c4 : 0 ≤ x8_1
        · rw [if_pos c4] at H
          have c4b0 : decide (0 ≤ x8_1) = true := decide_eq_true c4
          clear c4
          by_cases c5 : x8_1 < (l0.length : Int)
          · rw [if_pos c5] at H
            have c5b0 : decide (x8_1 < (l0.length : Int)) = true := decide_eq_true c5
            clear c5
            by_cases c6 : a1 = (rd l0 x8_1)
            · rw [if_pos c6] at H
              have c6b0 : (a1 == (rd l0 x8_1)) = true := beq_iff_eq.mpr c6
              have c6b1 : (a1 != (rd l0 x8_1)) = false := bne_eq_false_iff_eq.mpr c6
              clear c6
              as_aux_lemma =>
                obtain rfl := Option.some.inj H
                have p613 : 0 ≤ (x8_1 : Int) := of_decide_eq_true (by first | (with_reducible assumption) | assumption)
                have q613 : x8_1 < (l0.length : Int) := of_decide_eq_true (by first | (with_reducible assumption) | assumption)
                obtain ⟨ad613, e613, hx613_0⟩ := Kd.at_int HR0.out x8_1 p613 q613
                cases e613
                replace p613 := eq_true p613
                replace q613 := eq_true q613
                go_wp2
                go_ret
                exact ⟨by first | rfl | (simp; done) | (simp [*]; done), by repeat (first | exact Drawn0.refl _ | apply Drawn0.step)⟩
            · rw [if_neg c6] at H
              have c6b0 : (a1 == (rd l0 x8_1)) = false := beq_eq_false_iff_ne.mpr c6
              have c6b1 : (a1 != (rd l0 x8_1)) = true := bne_iff_ne.mpr c6
              as_aux_lemma =>
                have H' := Aside0.mk H
                clear H
                have p613 : 0 ≤ (x8_1 : Int) := of_decide_eq_true (by first | (with_reducible assumption) | assumption)
                have q613 : x8_1 < (l0.length : Int) := of_decide_eq_true (by first | (with_reducible assumption) | assumption)
                obtain ⟨ad613, e613, hx613_0⟩ := Kd.at_int HR0.out x8_1 p613 q613
                cases e613
                replace p613 := eq_true p613
                replace q613 := eq_true q613
                go_wp2
                go_roundg k1
                case measure => have := HK1.out; omega
                case rel => exact ⟨(wrap64 (x8_1 + 1)), (by first | rfl | (simp; done) | (simp [*]; done)), H', ⟨by have := HK1.out; omega⟩, by repeat (first | exact Drawn0.refl _ | apply Drawn0.step)⟩
          · rw [if_neg c5] at H
            exact absurd H (by simp)
        · rw [if_neg c4] at H
          exact absurd H (by simp)
      · rw [if_neg c3] at H
        have c3b0 : decide (x8_1 < (l0.length : Int)) = false := decide_eq_false c3
        clear c3
        as_aux_lemma =>
          obtain rfl := Option.some.inj H
          go_wp2
          go_ret
          exact ⟨by first | rfl | (simp; done) | (simp [*]; done), by repeat (first | exact Drawn0.refl _ | apply Drawn0.step)⟩

end Go.Proofs.Ytkfnaiobgddjpaa.P

-- Printed by wip/tools/pp.py of this claim's session (over the kit's print.py); Lean checks it.
namespace Go.Proofs.Ytkfnaiobgddjpaa.P
open Go.RowKit Go.Proofs.YtkfnaiobgddjpaaW.PrintWords Go.Proofs.YtkfnaiobgddjpaaW.PrintLast Go.Proofs.YtkfnaiobgddjpaaW.PrintMore
attribute [local go_sem] max2_int min2_int max_two min_two max_three min_three max_four min_four   -- for this text's walks alone
set_option linter.unusedVariables false
set_option linter.unusedSimpArgs false

/-! ### slices_Contains_int_int: function 95 -/
def slices_Contains_int_int.f (k : Nat) (l0 : List Int) (a1 : Int) : Option (Bool) := (slices_Index_int_int.f k l0 a1).bind fun t614 => (some (decide (t614 ≥ 0)))
theorem slices_Contains_int_int.mono : ∀ a0 a1 k, LeO (slices_Contains_int_int.f k a0 a1) (slices_Contains_int_int.f (k + 1) a0 a1) := by
  intro a0 a1 k
  unfold slices_Contains_int_int.f
  repeat' first
      | (with_reducible exact slices_Index_int_int.mono _ _ _)
      | (with_reducible exact LeO.refl _)
      | (with_reducible exact LeO.none _)
      | (with_reducible refine LeO.ite ?_ ?_)
      | (with_reducible refine LeO.bind ?_ (fun _ => ?_))
      | exact slices_Index_int_int.mono _ _ _
      | exact LeO.none _
      | refine LeO.ite ?_ ?_
      | refine LeO.bind ?_ (fun _ => ?_)
set_option maxHeartbeats 8000000 in
set_option maxRecDepth 100000 in
theorem slices_Contains_int_int.calls (k : Nat) (A0 : Option Addr) (c0 : Nat) (l0 : List Int) (a1 : Int) (r : Bool) (w : World) (hr0 : Kd.C (Kd.int .i64) w A0 l0.length l0) (hc0 : l0.length ≤ c0) (h : slices_Contains_int_int.f k l0 a1 = some r) :
    Calls Try.prog 95 #[.slice A0 l0.length c0, .int .i64 a1] w fun e w' => e = .returned (.bool r) ∧ Drawn0 w w' := by
  have HR0 := Aside0.mk hr0
  have HC0 := Aside0.mk hc0
  clear hr0 hc0
  have H : ((slices_Index_int_int.f k l0 a1).bind fun t614 => (some (decide (t614 ≥ 0)))) = some r := h
  clear h
  replace H := Option.bind_eq_some_iff.mp H
  obtain ⟨t614, A30, H⟩ := H
  replace H : (some (decide (t614 ≥ 0))) = some r := H
  have A3 := Aside0.mk A30
  clear A30
  as_aux_lemma =>
    obtain rfl := Option.some.inj H
    go_enter Try.func95, Try.ntmps95
    go_wp2_with (first | ((with_reducible refine gate_callee (f := 96) rfl ?_); refine goesL_ (some 7) rfl rfl Try.func96 (by kernel_rfl) rfl #[.slice A0 l0.length c0, .int .i64 a1] rfl (by (try simp only [List.map_toArray, List.map_cons, List.map_nil]); first | done | rfl | (simp only [List.length_drop, List.length_take]; rfl)) ?_; (with_reducible refine (slices_Index_int_int.calls k _ _ l0 a1 t614 _ ?side1 ?side2 A3.out).mono ?_); (case side1 => repeat (first | exact HR0.out | (with_reducible refine Kd.C_alloc ?_ _) | (with_reducible refine Kd.C_drewN ?_ _) | (with_reducible refine Kd.C_drew ?_))); (case side2 => exact HC0.out); rintro e w' ⟨rfl, ⟨nd, rfl⟩⟩; refine ⟨_, rfl, ?_⟩))
    go_ret
    exact ⟨by first | rfl | (simp; done) | (simp [*]; done), by repeat (first | exact Drawn0.refl _ | apply Drawn0.step)⟩

end Go.Proofs.Ytkfnaiobgddjpaa.P

-- Printed by wip/tools/pp.py of this claim's session (over the kit's print.py); Lean checks it.
namespace Go.Proofs.Ytkfnaiobgddjpaa.P
open Go.RowKit Go.Proofs.YtkfnaiobgddjpaaW.PrintWords Go.Proofs.YtkfnaiobgddjpaaW.PrintLast Go.Proofs.YtkfnaiobgddjpaaW.PrintMore
attribute [local go_sem] max2_int min2_int max_two min_two max_three min_three max_four min_four   -- for this text's walks alone
set_option linter.unusedVariables false
set_option linter.unusedSimpArgs false

/-! ### lit_Has: function 93 -/
def lit_Has.f (k : Nat) (l0 : List Int) (a1 : Int) : Option (Bool) := (lit_is.f a1).bind fun t615 => (if t615 = true then ((slices_Contains_int_int.f k l0 a1).bind fun t616 => (some t616)) else (some false))
theorem lit_Has.mono : ∀ a0 a1 k, LeO (lit_Has.f k a0 a1) (lit_Has.f (k + 1) a0 a1) := by
  intro a0 a1 k
  unfold lit_Has.f
  repeat' first
      | (with_reducible exact slices_Contains_int_int.mono _ _ _)
      | (with_reducible exact LeO.refl _)
      | (with_reducible exact LeO.none _)
      | (with_reducible refine LeO.ite ?_ ?_)
      | (with_reducible refine LeO.bind ?_ (fun _ => ?_))
      | exact slices_Contains_int_int.mono _ _ _
      | exact LeO.none _
      | refine LeO.ite ?_ ?_
      | refine LeO.bind ?_ (fun _ => ?_)
set_option maxHeartbeats 8000000 in
set_option maxRecDepth 100000 in
theorem lit_Has.calls (k : Nat) (A0 : Option Addr) (c0 : Nat) (l0 : List Int) (a1 : Int) (r : Bool) (w : World) (hr0 : Kd.C (Kd.int .i64) w A0 l0.length l0) (hc0 : l0.length ≤ c0) (h : lit_Has.f k l0 a1 = some r) :
    Calls Try.prog 93 #[.slice A0 l0.length c0, .int .i64 a1] w fun e w' => e = .returned (.bool r) ∧ Drawn0 w w' := by
  have HR0 := Aside0.mk hr0
  have HC0 := Aside0.mk hc0
  clear hr0 hc0
  have H : ((lit_is.f a1).bind fun t615 => (if t615 = true then ((slices_Contains_int_int.f k l0 a1).bind fun t616 => (some t616)) else (some false))) = some r := h
  clear h
  replace H := Option.bind_eq_some_iff.mp H
  obtain ⟨t615, A30, H⟩ := H
  replace H : (if t615 = true then ((slices_Contains_int_int.f k l0 a1).bind fun t616 => (some t616)) else (some false)) = some r := H
  have A3 := Aside0.mk A30
  clear A30
  by_cases c4 : t615 = true
  · subst c4
    have H1 : ((slices_Contains_int_int.f k l0 a1).bind fun t616 => (some t616)) = some r := by rw [if_pos rfl] at H; exact H
    clear H
    have H := H1
    clear H1
    replace H := Option.bind_eq_some_iff.mp H
    obtain ⟨t616, A50, H⟩ := H
    replace H : (some t616) = some r := H
    have A5 := Aside0.mk A50
    clear A50
    as_aux_lemma =>
      obtain rfl := Option.some.inj H
      go_enter Try.func93, Try.ntmps93
      go_wp2_with (first | ((with_reducible refine gate_callee (f := 73) rfl ?_); refine goesL_ (some 6) rfl rfl Try.func73 (by kernel_rfl) rfl #[.int .i64 a1] rfl (by (try simp only [List.map_toArray, List.map_cons, List.map_nil]); first | done | rfl | (simp only [List.length_drop, List.length_take]; rfl)) ?_; (with_reducible refine (lit_is.calls a1 true _ A3.out).mono ?_); rintro e w' ⟨rfl, ⟨nd, rfl⟩⟩; refine ⟨_, rfl, ?_⟩) | (go_at_call 95; (with_reducible refine (slices_Contains_int_int.calls k _ _ l0 a1 t616 _ ?side1 ?side2 A5.out).mono ?_); (case side1 => repeat (first | exact HR0.out | (with_reducible refine Kd.C_alloc ?_ _) | (with_reducible refine Kd.C_drewN ?_ _) | (with_reducible refine Kd.C_drew ?_))); (case side2 => exact HC0.out); rintro e w' ⟨rfl, ⟨nd, rfl⟩⟩))
      go_ret
      exact ⟨by first | rfl | (simp; done) | (simp [*]; done), by repeat (first | exact Drawn0.refl _ | apply Drawn0.step)⟩
  · replace c4 := Bool.eq_false_iff.mpr c4
    subst c4
    have H1 : (some false) = some r := by rw [if_neg (show ¬ (false = true) by decide)] at H; exact H
    clear H
    have H := H1
    clear H1
    as_aux_lemma =>
      obtain rfl := Option.some.inj H
      go_enter Try.func93, Try.ntmps93
      go_wp2_with (first | ((with_reducible refine gate_callee (f := 73) rfl ?_); refine goesL_ (some 6) rfl rfl Try.func73 (by kernel_rfl) rfl #[.int .i64 a1] rfl (by (try simp only [List.map_toArray, List.map_cons, List.map_nil]); first | done | rfl | (simp only [List.length_drop, List.length_take]; rfl)) ?_; (with_reducible refine (lit_is.calls a1 false _ A3.out).mono ?_); rintro e w' ⟨rfl, ⟨nd, rfl⟩⟩; refine ⟨_, rfl, ?_⟩))
      go_ret
      exact ⟨by first | rfl | (simp; done) | (simp [*]; done), by repeat (first | exact Drawn0.refl _ | apply Drawn0.step)⟩

end Go.Proofs.Ytkfnaiobgddjpaa.P

-- Printed by wip/tools/pp.py of this claim's session (over the kit's print.py); Lean checks it.
namespace Go.Proofs.Ytkfnaiobgddjpaa.P
open Go.RowKit Go.Proofs.YtkfnaiobgddjpaaW.PrintWords Go.Proofs.YtkfnaiobgddjpaaW.PrintLast Go.Proofs.YtkfnaiobgddjpaaW.PrintMore
attribute [local go_sem] max2_int min2_int max_two min_two max_three min_three max_four min_four   -- for this text's walks alone
set_option linter.unusedVariables false
set_option linter.unusedSimpArgs false

/-! ### lit_Within: function 86 -/
def lit_Within.l0 : Nat → List Int → List Int → Int → Int → Option (Bool)
  | 0, _, _, _, _ => none
  | k + 1, x1, x7, x8, x9 => if x9 < x8 then (if 0 ≤ x9 then (if x9 < (x7.length : Int) then ((lit_is.f (rd x7 x9)).bind fun t618 => (if t618 = true then ((lit_Has.f k x1 (rd x7 x9)).bind fun t619 => (if t619 = true then (lit_Within.l0 k x1 x7 x8 (wrap64 (x9 + 1))) else (some false))) else (lit_Within.l0 k x1 x7 x8 (wrap64 (x9 + 1))))) else (none)) else (none)) else (some true)
def lit_Within.f (k : Nat) (l0 : List Int) (l1 : List Int) : Option (Bool) := lit_Within.l0 k l1 l0 (l0.length : Int) 0
theorem lit_Within.mono_l : ∀ k, (∀ y0 y1 y2 y3, LeO (lit_Within.l0 k y0 y1 y2 y3) (lit_Within.l0 (k + 1) y0 y1 y2 y3))
  | 0 => fun _ _ _ _ r h => by simp [lit_Within.l0] at h
  | k + 1 => by
    have ih0 := lit_Within.mono_l k
    · intro y0 y1 y2 y3
      unfold lit_Within.l0
      repeat' first
      | (with_reducible exact ih0 _ _ _ _)
      | (with_reducible exact lit_Has.mono _ _ _)
      | (with_reducible exact LeO.refl _)
      | (with_reducible exact LeO.none _)
      | (with_reducible refine LeO.ite ?_ ?_)
      | (with_reducible refine LeO.bind ?_ (fun _ => ?_))
      | exact ih0 _ _ _ _
      | exact lit_Has.mono _ _ _
      | exact LeO.none _
      | refine LeO.ite ?_ ?_
      | refine LeO.bind ?_ (fun _ => ?_)
theorem lit_Within.mono : ∀ a0 a1 k, LeO (lit_Within.f k a0 a1) (lit_Within.f (k + 1) a0 a1) := by
  intro a0 a1 k
  have ih0 := lit_Within.mono_l k
  unfold lit_Within.f
  repeat' first
      | (with_reducible exact ih0 _ _ _ _)
      | (with_reducible exact lit_Has.mono _ _ _)
      | (with_reducible exact LeO.refl _)
      | (with_reducible exact LeO.none _)
      | (with_reducible refine LeO.ite ?_ ?_)
      | (with_reducible refine LeO.bind ?_ (fun _ => ?_))
      | exact ih0 _ _ _ _
      | exact lit_Has.mono _ _ _
      | exact LeO.none _
      | refine LeO.ite ?_ ?_
      | refine LeO.bind ?_ (fun _ => ?_)
set_option maxHeartbeats 8000000 in
set_option maxRecDepth 100000 in
theorem lit_Within.calls (k : Nat) (A0 : Option Addr) (c0 : Nat) (l0 : List Int) (A1 : Option Addr) (c1 : Nat) (l1 : List Int) (r : Bool) (w : World) (hr0 : Kd.C (Kd.int .i64) w A0 l0.length l0) (hc0 : l0.length ≤ c0) (hr1 : Kd.C (Kd.int .i64) w A1 l1.length l1) (hc1 : l1.length ≤ c1) (h : lit_Within.f k l0 l1 = some r) :
    Calls Try.prog 86 #[.slice A0 l0.length c0, .slice A1 l1.length c1] w fun e w' => e = .returned (.bool r) ∧ Drawn0 w w' := by
  have HR0 := Aside0.mk hr0
  have HC0 := Aside0.mk hc0
  clear hr0 hc0
  have HR1 := Aside0.mk hr1
  have HC1 := Aside0.mk hc1
  clear hr1 hc1
  have H : (lit_Within.l0 k l1 l0 (l0.length : Int) 0) = some r := h
  clear h
  have H' := Aside0.mk H
  clear H
  go_enter Try.func86, Try.ntmps86
  go_wp2
  go_loopg [9] k (fun kq v9 w' => ∃ (x9_1 : Int), v9 = .int .i64 x9_1 ∧ Aside0 (lit_Within.l0 kq l1 l0 (l0.length : Int) x9_1 = some r) ∧ Aside0 (kq ≤ k) ∧ Drawn0 w w')
  case atStart => exact ⟨(0), (by first | rfl | (simp; done) | (simp [*]; done)), H', ⟨Nat.le_refl _⟩, by repeat (first | exact Drawn0.refl _ | apply Drawn0.step)⟩
  case round =>
    clear H'
    try clear c1
    try clear p2
    obtain ⟨x9_1, rfl, HA, HK1, ⟨m1, rfl⟩⟩ := hrel
    cases gk with
    | zero => exact absurd HA.out (by simp [lit_Within.l0])
    | succ k1 =>
      have H := HA.out
      clear HA
      simp only [lit_Within.l0] at H
      by_cases c3 : x9_1 < (l0.length : Int)
      · rw [if_pos c3] at H
        have c3b0 : decide (x9_1 < (l0.length : Int)) = true := decide_eq_true c3
        clear c3
        by_cases c4 : 0 ≤ x9_1
        · rw [if_pos c4] at H
          have c4b0 : decide (0 ≤ x9_1) = true := decide_eq_true c4
          clear c4
          by_cases c5 : x9_1 < (l0.length : Int)
          · rw [if_pos c5] at H
            have c5b0 : decide (x9_1 < (l0.length : Int)) = true := decide_eq_true c5
            clear c5
            replace H := Option.bind_eq_some_iff.mp H
            obtain ⟨t618, A60, H⟩ := H
            replace H : (if t618 = true then ((lit_Has.f k1 l1 (rd l0 x9_1)).bind fun t619 => (if t619 = true then (lit_Within.l0 k1 l1 l0 (l0.length : Int) (wrap64 (x9_1 + 1))) else (some false))) else (lit_Within.l0 k1 l1 l0 (l0.length : Int) (wrap64 (x9_1 + 1)))) = some r := H
            have A6 := Aside0.mk A60
            clear A60
            by_cases c7 : t618 = true
            · subst c7
              have H1 : ((lit_Has.f k1 l1 (rd l0 x9_1)).bind fun t619 => (if t619 = true then (lit_Within.l0 k1 l1 l0 (l0.length : Int) (wrap64 (x9_1 + 1))) else (some false))) = some r := by rw [if_pos rfl] at H; exact H
              clear H
              have H := H1
              clear H1
              replace H := Option.bind_eq_some_iff.mp H
              obtain ⟨t619, A80, H⟩ := H
              replace H : (if t619 = true then (lit_Within.l0 k1 l1 l0 (l0.length : Int) (wrap64 (x9_1 + 1))) else (some false)) = some r := H
              have A8 := Aside0.mk A80
              clear A80
              by_cases c9 : t619 = true
              · subst c9
                have H1 : (lit_Within.l0 k1 l1 l0 (l0.length : Int) (wrap64 (x9_1 + 1))) = some r := by rw [if_pos rfl] at H; exact H
                clear H
                have H := H1
                clear H1
                as_aux_lemma =>
                  have H' := Aside0.mk H
                  clear H
                  have p617 : 0 ≤ (x9_1 : Int) := of_decide_eq_true (by first | (with_reducible assumption) | assumption)
                  have q617 : x9_1 < (l0.length : Int) := of_decide_eq_true (by first | (with_reducible assumption) | assumption)
                  obtain ⟨ad617, e617, hx617_0⟩ := Kd.at_int HR0.out x9_1 p617 q617
                  cases e617
                  replace p617 := eq_true p617
                  replace q617 := eq_true q617
                  go_wp2_with (first | ((with_reducible refine gate_callee (f := 73) rfl ?_); refine goesL_ (some 14) rfl rfl Try.func73 (by kernel_rfl) rfl #[.int .i64 (rd l0 x9_1)] rfl (by (try simp only [List.map_toArray, List.map_cons, List.map_nil]); first | done | rfl | (simp only [List.length_drop, List.length_take]; rfl)) ?_; (with_reducible refine (lit_is.calls (rd l0 x9_1) true _ A6.out).mono ?_); rintro e w' ⟨rfl, ⟨nd, rfl⟩⟩; refine ⟨_, rfl, ?_⟩) | (go_at_call 93; (with_reducible refine (lit_Has.calls k1 _ _ l1 (rd l0 x9_1) true _ ?side1 ?side2 A8.out).mono ?_); (case side1 => repeat (first | exact HR1.out | (with_reducible refine Kd.C_alloc ?_ _) | (with_reducible refine Kd.C_drewN ?_ _) | (with_reducible refine Kd.C_drew ?_))); (case side2 => exact HC1.out); rintro e w' ⟨rfl, ⟨nd, rfl⟩⟩))
                  go_roundg k1
                  case measure => have := HK1.out; omega
                  case rel => exact ⟨(wrap64 (x9_1 + 1)), (by first | rfl | (simp; done) | (simp [*]; done)), H', ⟨by have := HK1.out; omega⟩, by repeat (first | exact Drawn0.refl _ | apply Drawn0.step)⟩
              · replace c9 := Bool.eq_false_iff.mpr c9
                subst c9
                have H1 : (some false) = some r := by rw [if_neg (show ¬ (false = true) by decide)] at H; exact H
                clear H
                have H := H1
                clear H1
                as_aux_lemma =>
                  obtain rfl := Option.some.inj H
                  have p617 : 0 ≤ (x9_1 : Int) := of_decide_eq_true (by first | (with_reducible assumption) | assumption)
                  have q617 : x9_1 < (l0.length : Int) := of_decide_eq_true (by first | (with_reducible assumption) | assumption)
                  obtain ⟨ad617, e617, hx617_0⟩ := Kd.at_int HR0.out x9_1 p617 q617
                  cases e617
                  replace p617 := eq_true p617
                  replace q617 := eq_true q617
                  go_wp2_with (first | ((with_reducible refine gate_callee (f := 73) rfl ?_); refine goesL_ (some 14) rfl rfl Try.func73 (by kernel_rfl) rfl #[.int .i64 (rd l0 x9_1)] rfl (by (try simp only [List.map_toArray, List.map_cons, List.map_nil]); first | done | rfl | (simp only [List.length_drop, List.length_take]; rfl)) ?_; (with_reducible refine (lit_is.calls (rd l0 x9_1) true _ A6.out).mono ?_); rintro e w' ⟨rfl, ⟨nd, rfl⟩⟩; refine ⟨_, rfl, ?_⟩) | (go_at_call 93; (with_reducible refine (lit_Has.calls k1 _ _ l1 (rd l0 x9_1) false _ ?side1 ?side2 A8.out).mono ?_); (case side1 => repeat (first | exact HR1.out | (with_reducible refine Kd.C_alloc ?_ _) | (with_reducible refine Kd.C_drewN ?_ _) | (with_reducible refine Kd.C_drew ?_))); (case side2 => exact HC1.out); rintro e w' ⟨rfl, ⟨nd, rfl⟩⟩))
                  go_ret
                  exact ⟨by first | rfl | (simp; done) | (simp [*]; done), by repeat (first | exact Drawn0.refl _ | apply Drawn0.step)⟩
            · replace c7 := Bool.eq_false_iff.mpr c7
              subst c7
              have H1 : (lit_Within.l0 k1 l1 l0 (l0.length : Int) (wrap64 (x9_1 + 1))) = some r := by rw [if_neg (show ¬ (false = true) by decide)] at H; exact H
              clear H
              have H := H1
              clear H1
              as_aux_lemma =>
                have H' := Aside0.mk H
                clear H
                have p617 : 0 ≤ (x9_1 : Int) := of_decide_eq_true (by first | (with_reducible assumption) | assumption)
                have q617 : x9_1 < (l0.length : Int) := of_decide_eq_true (by first | (with_reducible assumption) | assumption)
                obtain ⟨ad617, e617, hx617_0⟩ := Kd.at_int HR0.out x9_1 p617 q617
                cases e617
                replace p617 := eq_true p617
                replace q617 := eq_true q617
                go_wp2_with (first | ((with_reducible refine gate_callee (f := 73) rfl ?_); refine goesL_ (some 14) rfl rfl Try.func73 (by kernel_rfl) rfl #[.int .i64 (rd l0 x9_1)] rfl (by (try simp only [List.map_toArray, List.map_cons, List.map_nil]); first | done | rfl | (simp only [List.length_drop, List.length_take]; rfl)) ?_; (with_reducible refine (lit_is.calls (rd l0 x9_1) false _ A6.out).mono ?_); rintro e w' ⟨rfl, ⟨nd, rfl⟩⟩; refine ⟨_, rfl, ?_⟩))
                go_roundg k1
                case measure => have := HK1.out; omega
                case rel => exact ⟨(wrap64 (x9_1 + 1)), (by first | rfl | (simp; done) | (simp [*]; done)), H', ⟨by have := HK1.out; omega⟩, by repeat (first | exact Drawn0.refl _ | apply Drawn0.step)⟩
          · rw [if_neg c5] at H
            exact absurd H (by simp)
        · rw [if_neg c4] at H
          exact absurd H (by simp)
      · rw [if_neg c3] at H
        have c3b0 : decide (x9_1 < (l0.length : Int)) = false := decide_eq_false c3
        clear c3
        as_aux_lemma =>
          obtain rfl := Option.some.inj H
          go_wp2
          go_ret
          exact ⟨by first | rfl | (simp; done) | (simp [*]; done), by repeat (first | exact Drawn0.refl _ | apply Drawn0.step)⟩

end Go.Proofs.Ytkfnaiobgddjpaa.P

-- Printed by wip/tools/pp.py of this claim's session (over the kit's print.py); Lean checks it.
namespace Go.Proofs.Ytkfnaiobgddjpaa.P
open Go.RowKit Go.Proofs.YtkfnaiobgddjpaaW.PrintWords Go.Proofs.YtkfnaiobgddjpaaW.PrintLast Go.Proofs.YtkfnaiobgddjpaaW.PrintMore
attribute [local go_sem] max2_int min2_int max_two min_two max_three min_three max_four min_four   -- for this text's walks alone
set_option linter.unusedVariables false
set_option linter.unusedSimpArgs false

/-! ### lit_Same: function 70 -/
def lit_Same.f (k : Nat) (l0 : List Int) (l1 : List Int) : Option (Bool) := (lit_Within.f k l0 l1).bind fun t620 => (if t620 = true then ((lit_Within.f k l1 l0).bind fun t621 => (some t621)) else (some false))
theorem lit_Same.mono : ∀ a0 a1 k, LeO (lit_Same.f k a0 a1) (lit_Same.f (k + 1) a0 a1) := by
  intro a0 a1 k
  unfold lit_Same.f
  repeat' first
      | (with_reducible exact lit_Within.mono _ _ _)
      | (with_reducible exact LeO.refl _)
      | (with_reducible exact LeO.none _)
      | (with_reducible refine LeO.ite ?_ ?_)
      | (with_reducible refine LeO.bind ?_ (fun _ => ?_))
      | exact lit_Within.mono _ _ _
      | exact LeO.none _
      | refine LeO.ite ?_ ?_
      | refine LeO.bind ?_ (fun _ => ?_)
set_option maxHeartbeats 8000000 in
set_option maxRecDepth 100000 in
theorem lit_Same.calls (k : Nat) (A0 : Option Addr) (c0 : Nat) (l0 : List Int) (A1 : Option Addr) (c1 : Nat) (l1 : List Int) (r : Bool) (w : World) (hr0 : Kd.C (Kd.int .i64) w A0 l0.length l0) (hc0 : l0.length ≤ c0) (hr1 : Kd.C (Kd.int .i64) w A1 l1.length l1) (hc1 : l1.length ≤ c1) (h : lit_Same.f k l0 l1 = some r) :
    Calls Try.prog 70 #[.slice A0 l0.length c0, .slice A1 l1.length c1] w fun e w' => e = .returned (.bool r) ∧ Drawn0 w w' := by
  have HR0 := Aside0.mk hr0
  have HC0 := Aside0.mk hc0
  clear hr0 hc0
  have HR1 := Aside0.mk hr1
  have HC1 := Aside0.mk hc1
  clear hr1 hc1
  have H : ((lit_Within.f k l0 l1).bind fun t620 => (if t620 = true then ((lit_Within.f k l1 l0).bind fun t621 => (some t621)) else (some false))) = some r := h
  clear h
  replace H := Option.bind_eq_some_iff.mp H
  obtain ⟨t620, A30, H⟩ := H
  replace H : (if t620 = true then ((lit_Within.f k l1 l0).bind fun t621 => (some t621)) else (some false)) = some r := H
  have A3 := Aside0.mk A30
  clear A30
  by_cases c4 : t620 = true
  · subst c4
    have H1 : ((lit_Within.f k l1 l0).bind fun t621 => (some t621)) = some r := by rw [if_pos rfl] at H; exact H
    clear H
    have H := H1
    clear H1
    replace H := Option.bind_eq_some_iff.mp H
    obtain ⟨t621, A50, H⟩ := H
    replace H : (some t621) = some r := H
    have A5 := Aside0.mk A50
    clear A50
    as_aux_lemma =>
      obtain rfl := Option.some.inj H
      go_enter Try.func70, Try.ntmps70
      go_wp2_with (first | ((with_reducible refine gate_callee (f := 86) rfl ?_); refine goesL_ (some 7) rfl rfl Try.func86 (by kernel_rfl) rfl #[.slice A0 l0.length c0, .slice A1 l1.length c1] rfl (by (try simp only [List.map_toArray, List.map_cons, List.map_nil]); first | done | rfl | (simp only [List.length_drop, List.length_take]; rfl)) ?_; (with_reducible refine (lit_Within.calls k _ _ l0 _ _ l1 true _ ?side1 ?side2 ?side3 ?side4 A3.out).mono ?_); (case side1 => repeat (first | exact HR0.out | (with_reducible refine Kd.C_alloc ?_ _) | (with_reducible refine Kd.C_drewN ?_ _) | (with_reducible refine Kd.C_drew ?_))); (case side2 => exact HC0.out); (case side3 => repeat (first | exact HR1.out | (with_reducible refine Kd.C_alloc ?_ _) | (with_reducible refine Kd.C_drewN ?_ _) | (with_reducible refine Kd.C_drew ?_))); (case side4 => exact HC1.out); rintro e w' ⟨rfl, ⟨nd, rfl⟩⟩; refine ⟨_, rfl, ?_⟩) | (go_at_call 86; (with_reducible refine (lit_Within.calls k _ _ l1 _ _ l0 t621 _ ?side1 ?side2 ?side3 ?side4 A5.out).mono ?_); (case side1 => repeat (first | exact HR1.out | (with_reducible refine Kd.C_alloc ?_ _) | (with_reducible refine Kd.C_drewN ?_ _) | (with_reducible refine Kd.C_drew ?_))); (case side2 => exact HC1.out); (case side3 => repeat (first | exact HR0.out | (with_reducible refine Kd.C_alloc ?_ _) | (with_reducible refine Kd.C_drewN ?_ _) | (with_reducible refine Kd.C_drew ?_))); (case side4 => exact HC0.out); rintro e w' ⟨rfl, ⟨nd, rfl⟩⟩))
      go_ret
      exact ⟨by first | rfl | (simp; done) | (simp [*]; done), by repeat (first | exact Drawn0.refl _ | apply Drawn0.step)⟩
  · replace c4 := Bool.eq_false_iff.mpr c4
    subst c4
    have H1 : (some false) = some r := by rw [if_neg (show ¬ (false = true) by decide)] at H; exact H
    clear H
    have H := H1
    clear H1
    as_aux_lemma =>
      obtain rfl := Option.some.inj H
      go_enter Try.func70, Try.ntmps70
      go_wp2_with (first | ((with_reducible refine gate_callee (f := 86) rfl ?_); refine goesL_ (some 7) rfl rfl Try.func86 (by kernel_rfl) rfl #[.slice A0 l0.length c0, .slice A1 l1.length c1] rfl (by (try simp only [List.map_toArray, List.map_cons, List.map_nil]); first | done | rfl | (simp only [List.length_drop, List.length_take]; rfl)) ?_; (with_reducible refine (lit_Within.calls k _ _ l0 _ _ l1 false _ ?side1 ?side2 ?side3 ?side4 A3.out).mono ?_); (case side1 => repeat (first | exact HR0.out | (with_reducible refine Kd.C_alloc ?_ _) | (with_reducible refine Kd.C_drewN ?_ _) | (with_reducible refine Kd.C_drew ?_))); (case side2 => exact HC0.out); (case side3 => repeat (first | exact HR1.out | (with_reducible refine Kd.C_alloc ?_ _) | (with_reducible refine Kd.C_drewN ?_ _) | (with_reducible refine Kd.C_drew ?_))); (case side4 => exact HC1.out); rintro e w' ⟨rfl, ⟨nd, rfl⟩⟩; refine ⟨_, rfl, ?_⟩))
      go_ret
      exact ⟨by first | rfl | (simp; done) | (simp [*]; done), by repeat (first | exact Drawn0.refl _ | apply Drawn0.step)⟩

end Go.Proofs.Ytkfnaiobgddjpaa.P

-- Printed by wip/tools/pp.py of this claim's session (over the kit's print.py); Lean checks it.
namespace Go.Proofs.Ytkfnaiobgddjpaa.P
open Go.RowKit Go.Proofs.YtkfnaiobgddjpaaW.PrintWords Go.Proofs.YtkfnaiobgddjpaaW.PrintLast Go.Proofs.YtkfnaiobgddjpaaW.PrintMore
attribute [local go_sem] max2_int min2_int max_two min_two max_three min_three max_four min_four   -- for this text's walks alone
set_option linter.unusedVariables false
set_option linter.unusedSimpArgs false

-- SOLO
-- IMPORTS Derived.Deep.DeepCutAuto
/-! ### rup_steps: function 64 -/
/-- How much there may be of rows. -/
def rup_steps.cap : Nat := 5864062014805
/-- A log's steps from one on: the first error and its place. -/
def rup_steps.l1 (k : Nat) (n : Int) : List S64 → Int → List (List Int) → Option (Int × Int)
  | [], _, _ => some (0, 0)
  | x :: t, i, all =>
    if x.f0 = true then
      (if ∀ l ∈ all, (lit_Same.f k l x.f1).isSome = true then
        (if ixOf (fun l => (lit_Same.f k l x.f1).getD false) all 0 < 0 then some (i, 3)
         else rup_steps.l1 k n t (i + 1) (all.take (ixOf (fun l => (lit_Same.f k l x.f1).getD false) all 0).toNat ++ all.drop ((ixOf (fun l => (lit_Same.f k l x.f1).getD false) all 0).toNat + 1)))
       else none)
    else (lit_Right.f k x.f1 n).bind fun e => if e = 0 then
      ((rup_follows.f k all n x.f1).bind fun b => if b = true then (if all.length + 1 < rup_steps.cap then rup_steps.l1 k n t (i + 1) (all ++ [x.f1]) else none) else some (i, 30))
     else some (i, e)
def rup_steps.f (k : Nat) (n : Int) (l : List (List Int)) (log : List S64) : Option (Int × Int) :=
  if l.length < rup_steps.cap then rup_steps.l1 k n log 0 l else none
theorem ixOf_range {α : Type} (p : α → Bool) : ∀ (l : List α) (i : Nat), ixOf p l (i : Int) = -1 ∨ ∃ j : Nat, j < l.length ∧ ixOf p l (i : Int) = ((i + j : Nat) : Int)
  | [], i => .inl rfl
  | x :: t, i => by
    rw [ixOf]
    by_cases h : p x = true
    · rw [if_pos h]; exact .inr ⟨0, by simp, by simp⟩
    · rw [if_neg h]
      rcases ixOf_range p t (i + 1) with h' | ⟨j, hj, h'⟩
      · exact .inl (by simpa using h')
      · exact .inr ⟨j + 1, by simpa using hj, by rw [show ((i : Int) + 1) = ((i + 1 : Nat) : Int) by omega, h']; congr 1; omega⟩
theorem HdsOf.add {W : World} {hs : List Hd} {xs : List (List Int)} {h : Hd} {x : List Int} (H : HdsOf W hs xs) (h1 : HdOf W h x) : HdsOf W (hs ++ [h]) (xs ++ [x]) := by
  refine ⟨by simp [H.1], fun i a b ha hb => ?_⟩
  rw [List.getElem?_append] at ha hb
  rw [H.1] at ha
  split at ha
  · rename_i hlt
    rw [if_pos hlt] at hb
    exact H.2 i a b ha hb
  · rename_i hlt
    rw [if_neg hlt] at hb
    have h0 : i - xs.length = 0 := by have := (List.getElem?_eq_some_iff.1 hb).1; simp at this; omega
    rw [h0] at ha hb
    simp at ha hb
    rw [← ha, ← hb]
    exact h1
theorem HdsOf.cut {W : World} {hs : List Hd} {xs : List (List Int)} (H : HdsOf W hs xs) (i : Nat) : HdsOf W (hs.take i ++ hs.drop (i + 1)) (xs.take i ++ xs.drop (i + 1)) := by
  rw [← List.eraseIdx_eq_take_drop_succ, ← List.eraseIdx_eq_take_drop_succ]
  refine ⟨by rw [List.length_eraseIdx, List.length_eraseIdx, H.1], fun j a b ha hb => ?_⟩
  rw [List.getElem?_eraseIdx] at ha hb
  split at ha
  · rename_i hlt; rw [if_pos hlt] at hb; exact H.2 j a b ha hb
  · rename_i hlt; rw [if_neg hlt] at hb; exact H.2 (j + 1) a b ha hb
set_option maxRecDepth 100000 in
set_option maxHeartbeats 2000000 in
theorem rup_steps_1.calls (k : Nat) (B : Nat) (A0 A1 : Option Addr) (c0 c1 : Nat) (l0 l1 : List Int) (r : Bool) (W : World) (hr0 : Kd.C (Kd.int .i64) W A0 l0.length l0) (hc0 : l0.length ≤ c0) (hr1 : Kd.C (Kd.int .i64) W A1 l1.length l1) (hc1 : l1.length ≤ c1)
    (hB : W.cell? ⟨B, 1, none⟩ = some (.slice A1 l1.length c1)) (h : lit_Same.f k l0 l1 = some r) :
    Calls Try.prog 82 #[.slice A0 l0.length c0, .pointer (some ⟨B, 0, none⟩)] W fun e W' => e = .returned (.bool r) ∧ Below W.heap.size W W' := by
  have HC := Aside0.mk (lit_Same.calls k A0 c0 l0 A1 c1 l1 r W hr0 hc0 hr1 hc1 h)
  have hu64 := Try.underlying64
  clear hr0 hr1 h
  go_enter Try.func82, Try.ntmps82
  go_wp2_with fail
  refine HC.out.mono ?_
  rintro e w' ⟨rfl, hb'⟩
  go_wp2
  go_ret
  exact ⟨rfl, hb'.below⟩
set_option maxRecDepth 100000 in
set_option maxHeartbeats 4000000 in
theorem rup_steps.calls (k : Nat) (a0_0 : Int) (A0_1 : Option Addr) (c0_1 : Nat) (l0_1 : List (List Int)) (A1 : Option Addr) (c1 : Nat) (l1 : List S64) (r1 r2 : Int) (w : World)
    (hr0_1 : Kd.C (Kd.slice 3 (Kd.int .i64)) w A0_1 l0_1.length l0_1) (hc0_1 : l0_1.length ≤ c0_1) (hr1 : Kd.C k64 w A1 l1.length l1) (hc1 : l1.length ≤ c1) (h : rup_steps.f k a0_0 l0_1 l1 = some (r1, r2)) :
    Calls Try.prog 64 #[.agg #[.int .i64 a0_0, .slice A0_1 l0_1.length c0_1], .slice A1 l1.length c1] w fun e w' => e = .returned (.tuple #[.int .i64 r1, .int .i64 r2]) ∧ Below w.heap.size w w' := by
  unfold rup_steps.f at h
  by_cases hcap0 : ¬ l0_1.length < rup_steps.cap
  · rw [if_neg hcap0] at h; cases h
  have hcap := Decidable.not_not.1 hcap0
  clear hcap0
  rw [if_pos hcap] at h
  obtain ⟨hs, hhs, hC⟩ := HdsOf.part hr0_1
  have hbig := hr1.2.1
  have H := Aside0.mk h
  have HHS := Aside0.mk hhs
  have HL := Aside0.mk hr1
  obtain ⟨N0, hN0⟩ : ∃ N0, l0_1.length = N0 := ⟨_, rfl⟩
  rw [hN0] at hC hc0_1 hcap ⊢
  have hN1 : hs.length = N0 := by rw [hhs.1, hN0]
  have huC := Try.underlying29
  have huL := Try.underlying64
  obtain ⟨WA, hWA⟩ : ∃ WA : World, w.alloc (.cells #[.int .i64 a0_0, .slice A0_1 N0 c0_1] 29) = WA := ⟨_, rfl⟩
  obtain ⟨Z, hZ⟩ : ∃ Z : World → Prop, Z = fun W => W.heap[w.heap.size]? = some (.cells #[.int .i64 a0_0, .slice A0_1 N0 c0_1] 29 (0, 0)) ∧ Below w.heap.size w W ∧ w.heap.size < W.heap.size := ⟨_, rfl⟩
  have hZA : Z WA := by
    rw [hZ, ← hWA]
    exact ⟨blk_new w _, below_alloc (Below.refl _ w) _, by simp⟩
  have hzB : ∀ {W : World}, Z W → Below w.heap.size w W := fun h => by rw [hZ] at h; exact h.2.1
  have hzS : ∀ {W : World}, Z W → w.heap.size < W.heap.size := fun h => by rw [hZ] at h; exact h.2.2
  have hzK : ∀ {W : World}, Z W → W.heap[w.heap.size]? = some (.cells #[.int .i64 a0_0, .slice A0_1 N0 c0_1] 29 (0, 0)) := fun h => by rw [hZ] at h; exact h.1
  have hzb : ∀ {W W' : World}, Z W → Below W.heap.size W W' → Z W' := fun h hb => by
    rw [hZ] at h ⊢
    exact ⟨blk_below h.1 hb, h.2.1.trans (hb.mono h.2.1.size), Nat.lt_of_lt_of_le h.2.2 hb.size⟩
  have hzc : ∀ {W : World}, Z W → W.cell? ⟨w.heap.size, 0, none⟩ = some (.int .i64 a0_0) ∧ W.cell? ⟨w.heap.size, 1, none⟩ = some (.slice A0_1 N0 c0_1) := fun h => by
    have h := hzK h
    exact ⟨blk_cell h 0, blk_cell h 1⟩
  have hcl := slices_Clone_rows.calls A0_1 c0_1 hs WA (by rw [hN1]; exact Kd.C_below hC (hzB hZA)) (by omega) (by rw [hN1]; exact hcap)
  rw [hN1] at hcl
  have HCL := Aside0.mk hcl
  have HZA := Aside0.mk hZA
  have HZd := Aside0.mk hZ
  have HN0 := Aside0.mk hN0
  have HN1 := Aside0.mk hN1
  have HCAP := Aside0.mk hcap
  have p0 := (hzc hZA).1
  have p1 := (hzc hZA).2
  clear h hhs hr1 hr0_1 hC hcl hZA hZ hN0 hN1 hcap
  go_enter Try.func64, Try.ntmps64
  go_wp2_with fail
  refine HCL.out.mono ?_
  rintro e' w1 ⟨v6, rfl, hR, hb1⟩
  have HZ1 := Aside0.mk (hzb HZA.out hb1)
  have HR := Aside0.mk (Kd.R_lower hR (Nat.le_of_lt (hzS HZA.out)))
  clear hWA p0 p1 hR hb1 HCL
  go_wp2
  go_loopg [6, 7, 8, 9, 10, 16] l1.length (fun gg v6 _ _ _ _ v16 wr => ∃ (i : Nat) (hs : List Hd) (all : List (List Int)), v16 = .int .i64 (i : Int) ∧ Aside0 (i + gg = l1.length) ∧ Aside0 (HdsOf w hs all) ∧ Aside0 (Z wr) ∧ Aside0 (Kd.R kH 43 wr w.heap.size (fun _ => True) v6 hs) ∧ Aside0 (all.length < rup_steps.cap) ∧ Aside0 (rup_steps.l1 k a0_0 (l1.drop i) (i : Int) all = some (r1, r2)))
  case atStart => exact ⟨0, hs, l0_1, rfl, ⟨by simp⟩, HHS, HZ1, HR, ⟨by rw [HN0.out]; exact HCAP.out⟩, H⟩
  case round =>
    clear HZ1 HR H HHS HZA HCAP HN0 HN1
    obtain ⟨i, hs, all, rfl, hg, hhs, hz, hR, hcap, hx⟩ := hrel
    by_cases hlt : i < l1.length
    · obtain ⟨ad, Ax, cx, e1, x1', x2', hlx, hCx'⟩ := at_T64 HL.out (i : Int) (by omega) (by omega)
      cases e1
      obtain ⟨x, hx0⟩ : ∃ x, l1[i] = x := ⟨_, rfl⟩
      have hrd : rd_T64 l1 (i : Int) = x := by simp [rd_T64, hlt, hx0]
      rw [hrd] at x1' x2' hlx hCx'
      have x1 := ((hzB hz.out).cell (World.block_lt_of_cell? w _ x1')).trans x1'
      have x2 := ((hzB hz.out).cell (World.block_lt_of_cell? w _ x2')).trans x2'
      have hCx := Kd.C_below hCx' (hzB hz.out)
      simp only [Int.toNat_natCast] at x1 x2
      have hx2 := hx.out
      rw [List.drop_eq_getElem_cons hlt, hx0] at hx2
      rw [rup_steps.l1] at hx2
      obtain ⟨xb, xl⟩ := x
      dsimp only at x1 x2 hlx hCx hCx' hx2
      have P0 : ((0 : Int) ≤ (i : Int)) = True := eq_true (by omega)
      have P1 : ((i : Int) < (l1.length : Int)) = True := eq_true (by omega)
      have P2 : (i < l1.length) = True := eq_true hlt
      have hd : decide ((i : Int) < (l1.length : Int)) = true := decide_eq_true (by omega)
      obtain ⟨W2, hW2⟩ : ∃ W2 : World, wr.alloc (.cells #[.bool xb, .slice Ax xl.length cx] 64) = W2 := ⟨_, rfl⟩
      have hk2 : W2.heap[wr.heap.size]? = some (.cells #[.bool xb, .slice Ax xl.length cx] 64 (0, 0)) := by rw [← hW2]; exact blk_new wr _
      have hb2 : Below wr.heap.size wr W2 := by rw [← hW2]; exact below_alloc (Below.refl _ _) _
      have hz2 := hzb hz.out hb2
      have hR2 := Kd.R_below hR.out hb2
      have hC2 := Kd.C_below hCx hb2
      have q0 : W2.cell? ⟨wr.heap.size, 0, none⟩ = some (.bool xb) := blk_cell hk2 0
      have q1 : W2.cell? ⟨wr.heap.size, 1, none⟩ = some (.slice Ax xl.length cx) := blk_cell hk2 1
      have p0 := (hzc hz2).1
      have HX2 := Aside0.mk hx2
      have HK2 := Aside0.mk hk2
      have HZ2 := Aside0.mk hz2
      have HR2 := Aside0.mk hR2
      have HC2 := Aside0.mk hC2
      have HCx := Aside0.mk hCx'
      have HLx := Aside0.mk hlx
      clear hx hx2 hx0 hrd hCx hk2 hb2 hz2 hR2 hC2 hR hz x1' x2' hCx'
      obtain ⟨A6, c6, rfl⟩ := Kd.R_slice HR2.out
      have hwi : wrap64 ((i : Int) + 1) = ((i + 1 : Nat) : Int) := by unfold wrap64; omega
      have HWI := Aside0.mk hwi
      clear hwi
      cases xb with
      | true =>
        have hx2 := HX2.out
        rw [if_pos rfl] at hx2
        by_cases hall0 : ¬ ∀ l ∈ all, (lit_Same.f k l xl).isSome = true
        · rw [if_neg hall0] at hx2; cases hx2
        have hall := Decidable.not_not.1 hall0
        clear hall0
        rw [if_pos hall] at hx2
        obtain ⟨p, hp⟩ : ∃ p : List Int → Bool, p = fun l => (lit_Same.f k l xl).getD false := ⟨_, rfl⟩
        rw [← hp] at hx2
        have hjoin := (hhs.out.below (hzB HZ2.out)).join (Kd.R_reads' HR2.out).2.2
        have hlen := hhs.out.1
        rw [hlen] at hjoin
        have hcall := slices_IndexFunc_rows.calls 82 #[.pointer (some ⟨wr.heap.size, 0, none⟩)] (enters_of Try.func82 (by kernel_rfl) rfl) p A6 c6 all W2 hjoin (fun W hbW y hy Ay cy hly hCy => by
          obtain ⟨b, hb⟩ := Option.isSome_iff_exists.1 (hall y hy)
          have hpy : p y = b := by rw [hp]; simp [hb]
          rw [hpy]
          exact rup_steps_1.calls k wr.heap.size Ay Ax cy cx y xl b W hCy hly (Kd.C_below HC2.out hbW) HLx.out (by have := blk_cell (blk_below HK2.out hbW) 1; exact this) hb)
        rw [← hlen] at hcall
        have HCALL := Aside0.mk hcall
        have HX3 := Aside0.mk hx2
        have HLEN := Aside0.mk hlen
        have HP := Aside0.mk hp
        clear hx2 hcall hjoin hlen hall hp HX2
        go_wp2_with fail
        refine HCALL.out.mono ?_
        rintro e' w3 ⟨rfl, hb3⟩
        have HZ3 := Aside0.mk (hzb HZ2.out hb3)
        have HR3 := Aside0.mk (Kd.R_below HR2.out hb3)
        clear hb3 HCALL HR2 HC2 HK2 hW2 q0 q1 p0 HZ2
        rcases ixOf_range p all 0 with hj | ⟨j, hjl, hj⟩
        · have hj' : ixOf p all 0 = -1 := by simpa using hj
          have hx3 := HX3.out
          rw [hj', if_pos (by decide)] at hx3
          simp only [Option.some.injEq, Prod.mk.injEq] at hx3
          obtain ⟨rfl, rfl⟩ := hx3
          clear hj HX3
          go_wp2
          go_ret2
          exact ⟨rfl, hzB HZ3.out⟩
        · have hj' : ixOf p all 0 = (j : Int) := by simpa using hj
          have hx3 := HX3.out
          rw [hj', if_neg (by omega)] at hx3
          simp only [Int.toNat_natCast] at hx3
          have HX4 := Aside0.mk hx3
          obtain ⟨g, rfl⟩ : ∃ g, A6 = some ⟨g, 0, none⟩ := by
            obtain ⟨inner, ho⟩ := Kd.R_own HR3.out
            rcases ho.2 with ⟨e1, e2⟩ | ⟨g, cap, cur, e1, _⟩
            · have := HLEN.out; omega
            · injection e1 with e1 _ _; exact ⟨g, e1⟩
          have hjs : j < hs.length := by rw [HLEN.out]; exact hjl
          have hbigl := (Kd.R_reads' HR3.out).2.2.2.1
          have hdel := slices_Delete_rows.calls hs g c6 j w.heap.size (fun _ => True) w3 HR3.out hjs (Nat.le_of_lt (hzS HZ3.out))
          have HDEL := Aside0.mk hdel
          have HJS := Aside0.mk hjs
          clear hj HX3 hx3 hdel hjl
          rw [hj']
          clear hj'
          go_wp2_with fail
          refine HDEL.out.mono ?_
          rintro e' w4 ⟨rfl, hR4, hB4, hk4, hs4⟩
          have hne : some w.heap.size ≠ some g := fun h => Kd.R_ne HR3.out (hzK HZ3.out) (by decide) h
          have HZ4 : Aside0 (Z w4) := ⟨by
            rw [HZd.out]
            exact ⟨(hk4 _ (hzS HZ3.out) hne).trans (hzK HZ3.out), (hzB HZ3.out).trans hB4, Nat.lt_of_lt_of_le (hzS HZ3.out) hs4⟩⟩
          have HR4 := Aside0.mk hR4
          clear hR4 hB4 hk4 hs4 HDEL HR3 HZ3
          go_wp2
          go_roundg (l1.length - (i + 1))
          case measure => have := hg.out; omega
          case rel =>
            have hl4 : (hs.take j ++ hs.drop (j + 1)).length = hs.length - 1 := by have := HJS.out; simp; omega
            refine ⟨i + 1, hs.take j ++ hs.drop (j + 1), all.take j ++ all.drop (j + 1), by simp, ⟨by have := hg.out; omega⟩, ⟨hhs.out.cut j⟩, HZ4, HR4, ⟨?_⟩, ?_⟩
            · have := hcap.out; have := HLEN.out; have := HJS.out; simp; omega
            · have h4 := HX4.out
              exact ⟨by rw [show ((i + 1 : Nat) : Int) = (i : Int) + 1 by omega]; exact h4⟩
      | false =>
        have hx2 := HX2.out
        rw [if_neg (by decide)] at hx2
        obtain ⟨e, he, hx2⟩ := Option.bind_eq_some_iff.mp hx2
        have HE := Aside0.mk (lit_Right.calls k Ax cx xl a0_0 e W2 HC2.out HLx.out he)
        have HX3 := Aside0.mk hx2
        clear he hx2 HX2
        go_wp2_with fail
        refine HE.out.mono ?_
        rintro e' w3 ⟨rfl, hd3⟩
        have hb3 := hd3.below
        have HZ3 := Aside0.mk (hzb HZ2.out hb3)
        have HR3 := Aside0.mk (Kd.R_below HR2.out hb3)
        have HK3 := Aside0.mk (blk_below HK2.out hb3)
        have q1 : w3.cell? ⟨wr.heap.size, 1, none⟩ = some (.slice Ax xl.length cx) := blk_cell HK3.out 1
        have p0 := (hzc HZ3.out).1
        clear hd3 hb3 HE HR2 HC2 HK2 hW2 q0 p0 HZ2
        clear q1
        have q1 : w3.cell? ⟨wr.heap.size, 1, none⟩ = some (.slice Ax xl.length cx) := blk_cell HK3.out 1
        have p0 := (hzc HZ3.out).1
        by_cases he0 : e = 0
        · subst he0
          have hx3 := HX3.out
          rw [if_pos rfl] at hx3
          obtain ⟨b, hb, hx3⟩ := Option.bind_eq_some_iff.mp hx3
          have hjoin := (hhs.out.below (hzB HZ3.out)).join (Kd.R_reads' HR3.out).2.2
          have hlen := hhs.out.1
          obtain ⟨_, hlc, _⟩ := Kd.R_reads' HR3.out
          rw [hlen] at hjoin hlc
          have hcall := rup_follows.calls k A6 c6 all a0_0 Ax cx xl b w3 hjoin hlc (Kd.C_below HCx.out (hzB HZ3.out)) HLx.out hb
          rw [← hlen] at hcall
          have HCALL := Aside0.mk hcall
          have HX4 := Aside0.mk hx3
          have HLEN := Aside0.mk hlen
          clear hb hx3 hjoin hlen hlc hcall HX3
          go_wp2_with fail
          refine HCALL.out.mono ?_
          rintro e' w4 ⟨rfl, hb4⟩
          have HZ4 := Aside0.mk (hzb HZ3.out hb4)
          have HR4 := Aside0.mk (Kd.R_below HR3.out hb4)
          have HK4 := Aside0.mk (blk_below HK3.out hb4)
          clear q1 p0
          have q1 : w4.cell? ⟨wr.heap.size, 1, none⟩ = some (.slice Ax xl.length cx) := blk_cell HK4.out 1
          clear HCALL HZ3 HR3 HK3 hb4
          cases b with
          | false =>
            have hx4 := HX4.out
            rw [if_neg (by decide)] at hx4
            simp only [Option.some.injEq, Prod.mk.injEq] at hx4
            obtain ⟨rfl, rfl⟩ := hx4
            go_wp2
            go_ret2
            exact ⟨rfl, hzB HZ4.out⟩
          | true =>
            have hx4 := HX4.out
            rw [if_pos rfl] at hx4
            by_cases hcp0 : ¬ all.length + 1 < rup_steps.cap
            · rw [if_neg hcp0] at hx4; cases hx4
            have hcp := Decidable.not_not.1 hcp0
            rw [if_pos hcp] at hx4
            have HX5 := Aside0.mk hx4
            have HCP := Aside0.mk (show all.length + 1 < 5864062014805 from hcp)
            clear hcp0 hcp hx4 HX4
            go_wp2_with (at_builtin; refine Kd.R_append kH (w0 := w) w.heap.size rfl (.tmp 51) (.tmp 54) 27 43 (.slice none 0 0) 24 rfl Try.underlying27 (by kernel_rfl) rfl (by decide) (by decide) (.slice A6 hs.length c6) hs ((Ax, xl.length, cx) : Hd) [.slice Ax xl.length cx] (fun _ => True) (fun _ => False) rfl rfl rfl (fun _ h => h.elim) (fun _ _ => trivial) HR4.out (hzB HZ4.out) (Nat.le_of_lt (hzS HZ4.out)) (by have := HCP.out; have := HLEN.out; omega) ?_; intro v5 w5 r5 hb5 hg5 hat5)
            go_roundg (l1.length - (i + 1))
            case measure => have := hg.out; omega
            case rel =>
              have nG : some w.heap.size ≠ (Value.slice A6 hs.length c6).ownBlock := Kd.R_ne HR4.out (hzK HZ4.out) (by decide)
              refine ⟨i + 1, hs ++ [(Ax, xl.length, cx)], all ++ [xl], by simp, ⟨by have := hg.out; omega⟩, ⟨hhs.out.add ⟨rfl, HLx.out, HCx.out⟩⟩, ⟨by rw [HZd.out]; exact ⟨blk_grown (hzK HZ4.out) hg5 nG, hb5, Nat.lt_of_lt_of_le (hzS HZ4.out) hg5.size⟩⟩, ⟨r5⟩, ⟨by rw [List.length_append]; exact HCP.out⟩, ?_⟩
              have h5 := HX5.out
              exact ⟨by rw [show ((i + 1 : Nat) : Int) = (i : Int) + 1 by omega]; exact h5⟩
        · have hx3 := HX3.out
          rw [if_neg he0] at hx3
          simp only [Option.some.injEq, Prod.mk.injEq] at hx3
          obtain ⟨rfl, rfl⟩ := hx3
          have c1' : (e != 0) = true := by simpa using he0
          have c2' : (e == 0) = false := by simpa using he0
          clear HX3 he0
          go_wp2
          go_ret2
          exact ⟨rfl, hzB HZ3.out⟩
    · have hd : decide ((i : Int) < (l1.length : Int)) = false := decide_eq_false (by omega)
      have hq := hx.out
      rw [List.drop_of_length_le (by omega)] at hq
      simp only [rup_steps.l1, Option.some.injEq, Prod.mk.injEq] at hq
      obtain ⟨rfl, rfl⟩ := hq
      go_wp2
      go_ret2
      exact ⟨rfl, hzB hz.out⟩
theorem rup_steps.mono_l (k : Nat) (n : Int) : ∀ (log : List S64) (i : Int) (all : List (List Int)), LeO (rup_steps.l1 k n log i all) (rup_steps.l1 (k + 1) n log i all)
  | [], _, _ => LeO.refl _
  | x :: t, i, all => by
    rw [rup_steps.l1, rup_steps.l1]
    by_cases hx : x.f0 = true
    · rw [if_pos hx, if_pos hx]
      by_cases hall : ∀ l ∈ all, (lit_Same.f k l x.f1).isSome = true
      · have hup : ∀ l ∈ all, lit_Same.f (k + 1) l x.f1 = lit_Same.f k l x.f1 := fun l hl => by
          obtain ⟨b, hb⟩ := Option.isSome_iff_exists.1 (hall l hl)
          rw [hb]
          exact lit_Same.mono _ _ _ _ hb
        have hall' : ∀ l ∈ all, (lit_Same.f (k + 1) l x.f1).isSome = true := fun l hl => by rw [hup l hl]; exact hall l hl
        rw [if_pos hall, if_pos hall']
        have hix : ∀ (l : List (List Int)) (j : Int), (∀ y ∈ l, y ∈ all) → ixOf (fun l => (lit_Same.f (k + 1) l x.f1).getD false) l j = ixOf (fun l => (lit_Same.f k l x.f1).getD false) l j := by
          intro l
          induction l with
          | nil => intro j _; rfl
          | cons y l ih =>
            intro j hm
            rw [ixOf, ixOf, hup y (hm y (by simp)), ih _ (fun z hz => hm z (by simp [hz]))]
        rw [hix all 0 (fun _ h => h)]
        exact LeO.ite (LeO.refl _) (rup_steps.mono_l k n t _ _)
      · rw [if_neg hall]; exact LeO.none _
    · rw [if_neg hx, if_neg hx]
      refine LeO.bind (lit_Right.mono _ _ _) (fun e => LeO.ite (LeO.bind (rup_follows.mono _ _ _ _) (fun b => LeO.ite (LeO.ite (rup_steps.mono_l k n t _ _) (LeO.refl _)) (LeO.refl _))) (LeO.refl _))
theorem rup_steps.mono : ∀ n l log k, LeO (rup_steps.f k n l log) (rup_steps.f (k + 1) n l log) := by
  intro n l log k
  unfold rup_steps.f
  exact LeO.ite (rup_steps.mono_l k n log 0 l) (LeO.refl _)


end Go.Proofs.Ytkfnaiobgddjpaa.P

-- Printed by wip/tools/pp.py of this claim's session (over the kit's print.py); Lean checks it.
namespace Go.Proofs.Ytkfnaiobgddjpaa.P
open Go.RowKit Go.Proofs.YtkfnaiobgddjpaaW.PrintWords Go.Proofs.YtkfnaiobgddjpaaW.PrintLast Go.Proofs.YtkfnaiobgddjpaaW.PrintMore
attribute [local go_sem] max2_int min2_int max_two min_two max_three min_three max_four min_four   -- for this text's walks alone
set_option linter.unusedVariables false
set_option linter.unusedSimpArgs false

/-! ### rup_empty: function 66 -/
def rup_empty.f (l0 : List Int) : Option (Bool) := some ((l0.length : Int) == 0)
set_option maxHeartbeats 8000000 in
set_option maxRecDepth 100000 in
theorem rup_empty.calls (A0 : Option Addr) (c0 : Nat) (l0 : List Int) (r : Bool) (w : World) (hr0 : Kd.C (Kd.int .i64) w A0 l0.length l0) (hc0 : l0.length ≤ c0) (h : rup_empty.f l0 = some r) :
    Calls Try.prog 66 #[.slice A0 l0.length c0] w fun e w' => e = .returned (.bool r) ∧ Drawn0 w w' := by
  have HR0 := Aside0.mk hr0
  have HC0 := Aside0.mk hc0
  clear hr0 hc0
  have H : (some ((l0.length : Int) == 0)) = some r := h
  clear h
  as_aux_lemma =>
    obtain rfl := Option.some.inj H
    go_enter Try.func66, Try.ntmps66
    go_wp2
    go_ret
    exact ⟨by first | rfl | (simp; done) | (simp [*]; done), by repeat (first | exact Drawn0.refl _ | apply Drawn0.step)⟩

end Go.Proofs.Ytkfnaiobgddjpaa.P

-- Printed by wip/tools/pp.py of this claim's session (over the kit's print.py); Lean checks it.
namespace Go.Proofs.Ytkfnaiobgddjpaa.P
open Go.RowKit Go.Proofs.YtkfnaiobgddjpaaW.PrintWords Go.Proofs.YtkfnaiobgddjpaaW.PrintLast Go.Proofs.YtkfnaiobgddjpaaW.PrintMore
attribute [local go_sem] max2_int min2_int max_two min_two max_three min_three max_four min_four   -- for this text's walks alone
set_option linter.unusedVariables false
set_option linter.unusedSimpArgs false

-- SOLO
-- IMPORTS 
/-! ### rup_Check: function 42 -/
/-- Is a clause empty? -/
def isE (l : List Int) : Bool := (l.length : Int) == 0
/-- Does a step add an empty clause? -/
def addsE (x : S64) : Bool := !x.f0 && isE x.f1
def rup_Check.f (k : Nat) (a0_0 : Int) (l0_1 : List (List Int)) (l1 : List S64) : Option (Int × Int) :=
  (cnf_Right.f k a0_0 l0_1).bind fun b => if b.2 = 0 then
    (if (l1.length : Int) > 4096 then some (-1, 2) else
      (rup_steps.f k a0_0 l0_1 l1).bind fun s => if s.2 = 0 then
        (if (decide (0 ≤ ixOf isE l0_1 0)) = true then some (0, 0) else if (decide (0 ≤ ixOf addsE l1 0)) = true then some (0, 0) else some ((l1.length : Int), 24))
       else some s)
   else some (-1, b.2)
set_option maxRecDepth 100000 in
set_option maxHeartbeats 2000000 in
theorem rup_Check_1.calls (x : S64) (A1 : Option Addr) (c1 : Nat) (W : World) (hr1 : Kd.C (Kd.int .i64) W A1 x.f1.length x.f1) (hc1 : x.f1.length ≤ c1) :
    Calls Try.prog 68 #[.agg #[.bool x.f0, .slice A1 x.f1.length c1]] W fun e W' => e = .returned (.bool (addsE x)) ∧ Below W.heap.size W W' := by
  obtain ⟨xb, xl⟩ := x
  dsimp only at hr1 hc1 ⊢
  have hu64 := Try.underlying64
  unfold addsE
  dsimp only
  cases xb with
  | true =>
    clear hr1
    go_enter Try.func68, Try.ntmps68
    go_wp2
    go_ret
    exact ⟨rfl, below_alloc (Below.refl _ _) _⟩
  | false =>
    have hb1 : Below W.heap.size W (W.alloc (.cells #[.bool false, .slice A1 xl.length c1] 64)) := below_alloc (Below.refl _ _) _
    have HC := Aside0.mk (rup_empty.calls A1 c1 xl (isE xl) _ (Kd.C_below hr1 hb1) hc1 rfl)
    have HB := Aside0.mk hb1
    clear hr1 hb1
    go_enter Try.func68, Try.ntmps68
    go_wp2_with fail
    refine HC.out.mono ?_
    rintro e w' ⟨rfl, hb'⟩
    go_wp2
    go_ret
    exact ⟨by simp, HB.out.trans (hb'.below.mono HB.out.size)⟩
set_option maxRecDepth 100000 in
set_option maxHeartbeats 4000000 in
theorem rup_Check.calls (k : Nat) (a0_0 : Int) (A0_1 : Option Addr) (c0_1 : Nat) (l0_1 : List (List Int)) (A1 : Option Addr) (c1 : Nat) (l1 : List S64) (r1 r2 : Int) (w : World)
    (hr0_1 : Kd.C (Kd.slice 3 (Kd.int .i64)) w A0_1 l0_1.length l0_1) (hc0_1 : l0_1.length ≤ c0_1) (hr1 : Kd.C k64 w A1 l1.length l1) (hc1 : l1.length ≤ c1) (h : rup_Check.f k a0_0 l0_1 l1 = some (r1, r2)) :
    Calls Try.prog 42 #[.agg #[.int .i64 a0_0, .slice A0_1 l0_1.length c0_1], .slice A1 l1.length c1] w fun e w' => e = .returned (.tuple #[.int .i64 r1, .int .i64 r2]) ∧ Below w.heap.size w w' := by
  unfold rup_Check.f at h
  obtain ⟨⟨b1, b2⟩, hb, h⟩ := Option.bind_eq_some_iff.mp h
  dsimp only at h
  have huC := Try.underlying29
  obtain ⟨WA, hWA⟩ : ∃ WA : World, w.alloc (.cells #[.int .i64 a0_0, .slice A0_1 l0_1.length c0_1] 29) = WA := ⟨_, rfl⟩
  obtain ⟨Z, hZ⟩ : ∃ Z : World → Prop, Z = fun W => W.heap[w.heap.size]? = some (.cells #[.int .i64 a0_0, .slice A0_1 l0_1.length c0_1] 29 (0, 0)) ∧ Below w.heap.size w W ∧ w.heap.size < W.heap.size := ⟨_, rfl⟩
  have hZA : Z WA := by
    rw [hZ, ← hWA]
    exact ⟨blk_new w _, below_alloc (Below.refl _ w) _, by simp⟩
  have hzB : ∀ {W : World}, Z W → Below w.heap.size w W := fun h => by rw [hZ] at h; exact h.2.1
  have hzb : ∀ {W W' : World}, Z W → Below W.heap.size W W' → Z W' := fun h hb => by
    rw [hZ] at h ⊢
    exact ⟨blk_below h.1 hb, h.2.1.trans (hb.mono h.2.1.size), Nat.lt_of_lt_of_le h.2.2 hb.size⟩
  have hzc : ∀ {W : World}, Z W → W.cell? ⟨w.heap.size, 0, none⟩ = some (.int .i64 a0_0) ∧ W.cell? ⟨w.heap.size, 1, none⟩ = some (.slice A0_1 l0_1.length c0_1) := fun h => by
    rw [hZ] at h
    exact ⟨blk_cell h.1 0, blk_cell h.1 1⟩
  have hbig := hr1.2.1
  have HRC := Aside0.mk hr0_1
  have HL := Aside0.mk hr1
  have HR := Aside0.mk (cnf_Right.calls k a0_0 A0_1 c0_1 l0_1 b1 b2 WA (Kd.C_below hr0_1 (hzB hZA)) hc0_1 hb)
  have H := Aside0.mk h
  have HZA := Aside0.mk hZA
  obtain ⟨p0, p1⟩ := hzc hZA
  clear hr0_1 hr1 hb h hZ hZA
  go_enter Try.func42, Try.ntmps42
  go_wp2_with fail
  refine HR.out.mono ?_
  rintro e' w1 ⟨rfl, hb1⟩
  have HZ1 := Aside0.mk (hzb HZA.out hb1)
  clear hWA p0 p1 hb1 HR HZA
  obtain ⟨p0, p1⟩ := hzc HZ1.out
  by_cases e0 : b2 = 0
  · subst e0
    have h := H.out
    rw [if_pos rfl] at h
    clear H
    by_cases e1 : (l1.length : Int) > 4096
    · rw [if_pos e1] at h
      simp only [Option.some.injEq, Prod.mk.injEq] at h
      obtain ⟨rfl, rfl⟩ := h
      have d1 : decide ((4096 : Int) < (l1.length : Int)) = true := decide_eq_true e1
      have d2 : (4096 < l1.length) = True := eq_true (by omega)
      clear e1
      go_wp2
      go_ret2
      exact ⟨rfl, hzB HZ1.out⟩
    · rw [if_neg e1] at h
      have d1 : decide ((4096 : Int) < (l1.length : Int)) = false := decide_eq_false e1
      have d2 : (4096 < l1.length) = False := eq_false (by omega)
      clear e1
      obtain ⟨⟨s1, s2⟩, hs, h⟩ := Option.bind_eq_some_iff.mp h
      dsimp only at h
      have HS := Aside0.mk (rup_steps.calls k a0_0 A0_1 c0_1 l0_1 A1 c1 l1 s1 s2 w1 (Kd.C_below HRC.out (hzB HZ1.out)) hc0_1 (Kd.C_below HL.out (hzB HZ1.out)) hc1 hs)
      have H := Aside0.mk h
      clear hs h
      go_wp2_with fail
      refine HS.out.mono ?_
      rintro e' w2 ⟨rfl, hb2⟩
      have HZ2 := Aside0.mk (hzb HZ1.out hb2)
      clear p0 p1 hb2 HS HZ1
      obtain ⟨p0, p1⟩ := hzc HZ2.out
      by_cases e2 : s2 = 0
      · subst e2
        have h := H.out
        rw [if_pos rfl] at h
        clear H
        have HC := Aside0.mk (slices_ContainsFunc_rows.calls 66 #[] (enters_of Try.func66 (by kernel_rfl) rfl) isE A0_1 c0_1 l0_1 w2 (Kd.C_below HRC.out (hzB HZ2.out)) (fun W hbW y hy Ay cy hly hCy => (rup_empty.calls Ay cy y (isE y) W hCy hly rfl).mono (fun e W' hh => ⟨hh.1, hh.2.below⟩)))
        obtain ⟨q1, hq1⟩ : ∃ q1, decide (0 ≤ ixOf isE l0_1 0) = q1 := ⟨_, rfl⟩
        rw [hq1] at HC h
        have H := Aside0.mk h
        clear h hq1
        go_wp2_with fail
        refine HC.out.mono ?_
        rintro e' w3 ⟨rfl, hb3⟩
        have HZ3 := Aside0.mk (hzb HZ2.out hb3)
        clear p0 p1 hb3 HC HZ2
        cases q1 with
        | true =>
          have h := H.out
          rw [if_pos rfl] at h
          simp only [Option.some.injEq, Prod.mk.injEq] at h
          obtain ⟨rfl, rfl⟩ := h
          go_wp2
          go_ret2
          exact ⟨rfl, hzB HZ3.out⟩
        | false =>
          have h := H.out
          rw [if_neg (by decide)] at h
          clear H
          have HC := Aside0.mk (slices_ContainsFunc_logs.calls 68 #[] (enters_of Try.func68 (by kernel_rfl) rfl) addsE A1 c1 l1 w3 (Kd.C_below HL.out (hzB HZ3.out)) (fun W hbW y hy Ay cy hly hCy => rup_Check_1.calls y Ay cy W hCy hly))
          obtain ⟨q2, hq2⟩ : ∃ q2, decide (0 ≤ ixOf addsE l1 0) = q2 := ⟨_, rfl⟩
          rw [hq2] at HC h
          have H := Aside0.mk h
          clear h hq2
          go_wp2_with fail
          refine HC.out.mono ?_
          rintro e' w4 ⟨rfl, hb4⟩
          have HZ4 := Aside0.mk (hzb HZ3.out hb4)
          clear hb4 HC HZ3
          cases q2 with
          | true =>
            have h := H.out
            rw [if_pos rfl] at h
            simp only [Option.some.injEq, Prod.mk.injEq] at h
            obtain ⟨rfl, rfl⟩ := h
            go_wp2
            go_ret2
            exact ⟨rfl, hzB HZ4.out⟩
          | false =>
            have h := H.out
            rw [if_neg (by decide)] at h
            simp only [Option.some.injEq, Prod.mk.injEq] at h
            obtain ⟨rfl, rfl⟩ := h
            go_wp2
            go_ret2
            exact ⟨rfl, hzB HZ4.out⟩
      · have h := H.out
        rw [if_neg e2] at h
        simp only [Option.some.injEq, Prod.mk.injEq] at h
        obtain ⟨rfl, rfl⟩ := h
        have c1' : (s2 != 0) = true := by simpa using e2
        have c2' : (s2 == 0) = false := by simpa using e2
        clear e2
        go_wp2
        go_ret2
        exact ⟨rfl, hzB HZ2.out⟩
  · have h := H.out
    rw [if_neg e0] at h
    simp only [Option.some.injEq, Prod.mk.injEq] at h
    obtain ⟨rfl, rfl⟩ := h
    have c1' : (b2 != 0) = true := by simpa using e0
    have c2' : (b2 == 0) = false := by simpa using e0
    clear e0
    go_wp2
    go_ret2
    exact ⟨rfl, hzB HZ1.out⟩
theorem rup_Check.mono : ∀ n l log k, LeO (rup_Check.f k n l log) (rup_Check.f (k + 1) n l log) := by
  intro n l log k
  unfold rup_Check.f
  exact LeO.bind (cnf_Right.mono _ _ _) (fun _ => LeO.ite (LeO.ite (LeO.refl _) (LeO.bind (rup_steps.mono _ _ _ _) (fun _ => LeO.refl _))) (LeO.refl _))


end Go.Proofs.Ytkfnaiobgddjpaa.P
