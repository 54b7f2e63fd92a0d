import Derived.Laws.Rows
import Derived.StillTailTactics
import Derived.Test.YtaibnbhgjnddnaaKSolveAssumes1
namespace Go.Proofs.Ytaibnbhgjnddnaa.P
open Go.RowKit Go.Proofs.YtaibnbhgjnddnaaW.PrintWords Go.Proofs.YtaibnbhgjnddnaaW.PrintLast Go.Proofs.YtaibnbhgjnddnaaW.PrintMore
attribute [local go_sem] max2_int min2_int max_two min_two max_three min_three max_four min_four
set_option linter.unusedVariables false
set_option linter.unusedSimpArgs false
theorem results_cell2 {P : Program} {fn : Func} {p u : Tmp} {ty : TypeId} (h : fn.results = #[.cell p ty, .tmp u]) (tmps : Array Value) (w : World) (g : Nat) (t : TypeId) (cs : Array Value) (fr : Nat × Nat) (d : TypeDesc)
    (hp : tmps.getD p undef = .pointer (some ⟨g, 0, none⟩)) (hg : w.heap[g]? = some (.cells cs t fr))
    (hu : P.underlying ty = some d) (hd : (match d with | .struct _ | .array _ _ => true | _ => false) = true) (hi : (P.info? ty).map (·.size) = some cs.size) :
    (results fn tmps).run P w = .ok (.tuple #[.agg cs, tmps.getD u undef]) w := by
  have hp' : tmps[p]?.getD undef = .pointer (some ⟨g, 0, none⟩) := by simpa using hp
  simp [results, h, hp', asAddr, run_loadVar_row w g t ty cs fr d hg hu hd hi]
theorem results_cell3 {P : Program} {fn : Func} {p u v : Tmp} {ty : TypeId} (h : fn.results = #[.cell p ty, .tmp u, .tmp v]) (tmps : Array Value) (w : World) (g : Nat) (t : TypeId) (cs : Array Value) (fr : Nat × Nat) (d : TypeDesc)
    (hp : tmps.getD p undef = .pointer (some ⟨g, 0, none⟩)) (hg : w.heap[g]? = some (.cells cs t fr))
    (hu : P.underlying ty = some d) (hd : (match d with | .struct _ | .array _ _ => true | _ => false) = true) (hi : (P.info? ty).map (·.size) = some cs.size) :
    (results fn tmps).run P w = .ok (.tuple #[.agg cs, tmps.getD u undef, tmps.getD v undef]) w := by
  have hp' : tmps[p]?.getD undef = .pointer (some ⟨g, 0, none⟩) := by simpa using hp
  simp [results, h, hp', asAddr, run_loadVar_row w g t ty cs fr d hg hu hd hi]
structure Found where
  err : Int
  sat : Bool
  vals : List Bool
  log : List S64
  steps : Int
  need : List Int
def Found.bad (f : Int) (n : Int) : Found := ⟨f, false, [], [], n, []⟩
abbrev put4 (w : World) (g : Nat) (v0 v1 v2 v3 : Value) : World := (((w.setCell ⟨g, 0, none⟩ v0).setCell ⟨g, 1, none⟩ v1).setCell ⟨g, 2, none⟩ v2).setCell ⟨g, 3, none⟩ v3
section
variable {w : World} {g t : Nat} {a0 a1 a2 a3 : Value}
theorem put4_facts (hx : w.heap[g]? = some (.cells #[a0, a1, a2, a3] t (0, 0))) (v0 v1 v2 v3 : Value) :
    (w.cell? ⟨g, 0, none⟩ = some a0 ∧ w.frozen? ⟨g, 0, none⟩ = false) ∧ ((w.setCell ⟨g, 0, none⟩ v0).cell? ⟨g, 1, none⟩ = some a1 ∧ (w.setCell ⟨g, 0, none⟩ v0).frozen? ⟨g, 1, none⟩ = false) ∧
      (((w.setCell ⟨g, 0, none⟩ v0).setCell ⟨g, 1, none⟩ v1).cell? ⟨g, 2, none⟩ = some a2 ∧ ((w.setCell ⟨g, 0, none⟩ v0).setCell ⟨g, 1, none⟩ v1).frozen? ⟨g, 2, none⟩ = false) ∧
      ((((w.setCell ⟨g, 0, none⟩ v0).setCell ⟨g, 1, none⟩ v1).setCell ⟨g, 2, none⟩ v2).cell? ⟨g, 3, none⟩ = some a3 ∧ (((w.setCell ⟨g, 0, none⟩ v0).setCell ⟨g, 1, none⟩ v1).setCell ⟨g, 2, none⟩ v2).frozen? ⟨g, 3, none⟩ = false) ∧
      (put4 w g v0 v1 v2 v3).heap[g]? = some (.cells #[v0, v1, v2, v3] t (0, 0)) := by
  have h1 := blk_put (cs' := #[v0, a1, a2, a3]) hx 0 v0 rfl
  have h2 := blk_put (cs' := #[v0, v1, a2, a3]) h1 1 v1 rfl
  have h3 := blk_put (cs' := #[v0, v1, v2, a3]) h2 2 v2 rfl
  have h4 := blk_put (cs' := #[v0, v1, v2, v3]) h3 3 v3 rfl
  exact ⟨⟨zql hx 0, zqm hx 0⟩, ⟨zql h1 1, zqm h1 1⟩, ⟨zql h2 2, zqm h2 2⟩, ⟨zql h3 3, zqm h3 3⟩, h4⟩
theorem put4_far (v0 v1 v2 v3 : Value) (k : Nat) (hk : k ≠ g) : (put4 w g v0 v1 v2 v3).heap[k]? = w.heap[k]? :=
  (Below.heap_setCell _ _ v3 k hk).trans ((Below.heap_setCell _ _ v2 k hk).trans ((Below.heap_setCell _ _ v1 k hk).trans (Below.heap_setCell _ _ v0 k hk)))
theorem put4_below {w0 : World} (h : Below w0.heap.size w0 w) (hg : w0.heap.size ≤ g) (v0 v1 v2 v3 : Value) : Below w0.heap.size w0 (put4 w g v0 v1 v2 v3) := (((h.setCell hg _).setCell hg _).setCell hg _).setCell hg _
end
set_option maxRecDepth 100000 in
set_option maxHeartbeats 4000000 in
theorem sol_out.calls {w0 w : World} {S B : Nat} {T : Tag} {U : Col} {Z : Sol} {p : EngP} {q : SolP} (h0 : SolIn w0 w S B T U Z p q) (g : Nat) (hg : w.cell? ⟨g, 0, none⟩ = some (.pointer (some ⟨S, 0, none⟩))) :
    Calls Try.prog 37 #[.pointer (some ⟨g, 0, none⟩)] w fun e w' => e = .returned (.tuple #[.agg #[.bool false, .slice none 0 0, .slice none 0 0, .int .i64 Z.fuel], .slice none 0 0, .int .i64 9]) ∧ Below w.heap.size w w' := by
  have hb : Below w.heap.size w (w.alloc (.cells #[.bool false, .slice none 0 0, .slice none 0 0, .int .i64 0] 33)) := zqb (zqw _ _) _
  have c6 := pw_cell_below hb h0.cells.2.2.2.2.2.2.1
  have cg := pw_cell_below hb hg
  have hu33 := Try.underlying33
  have HB := K0 hb
  clear h0 hg hb
  go_enter Try.func37, Try.ntmps37
  go_wp2
  refine bodyPost_ret (results_cell3 rfl _ _ w.heap.size _ _ _ _ rfl (blk_new w _) hu33 rfl (by kernel_rfl)) rfl ?_
  exact ⟨rfl, zqb (zqw _ _) _⟩
def lit_is.f (a0 : Int) : Option (Bool) := if a0 = 0 then (some false) else (some (a0 != (-9223372036854775808)))
set_option maxHeartbeats 8000000 in
set_option maxRecDepth 100000 in
theorem lit_is.calls (a0 : Int) (r : Bool) (w : World) (h : lit_is.f a0 = some r) :
    Calls Try.prog 33 #[.int .i64 a0] w fun e w' => e = .returned (.bool r) ∧ Drawn0 w w' := by
  have H : (if a0 = 0 then (some false) else (some (a0 != (-9223372036854775808)))) = some r := h
  clear h
  by_cases c2 : a0 = 0
  · rw [if_pos c2] at H
    have c2b0 : (a0 == 0) = true := beq_iff_eq.mpr c2
    have c2b1 : (a0 != 0) = false := bne_eq_false_iff_eq.mpr c2
    clear c2
    as_aux_lemma =>
      obtain rfl := zqv H
      go_enter Try.func33, Try.ntmps33
      go_wp2
      go_ret
      exact ⟨by first | rfl | (simp; done) | (simp [*]; done), by repeat (first | exact Drawn0.refl _ | apply Drawn0.step)⟩
  · rw [if_neg c2] at H
    have c2b0 : (a0 == 0) = false := beq_eq_false_iff_ne.mpr c2
    have c2b1 : (a0 != 0) = true := bne_iff_ne.mpr c2
    as_aux_lemma =>
      obtain rfl := zqv H
      go_enter Try.func33, Try.ntmps33
      go_wp2
      go_ret
      exact ⟨by first | rfl | (simp; done) | (simp [*]; done), by repeat (first | exact Drawn0.refl _ | apply Drawn0.step)⟩
def lit_variable.f (a0 : Int) : Option (Int) := some (mx a0 (wrap64 (-a0)))
set_option maxHeartbeats 8000000 in
set_option maxRecDepth 100000 in
theorem lit_variable.calls (a0 : Int) (r : Int) (w : World) (h : lit_variable.f a0 = some r) :
    Calls Try.prog 34 #[.int .i64 a0] w fun e w' => e = .returned (.int .i64 r) ∧ Drawn0 w w' := by
  obtain rfl := zqv h
  clear h
  go_enter Try.func34, Try.ntmps34
  go_wp2
  · have h : a0 < wrap64 (-a0) := by assumption
    rw [show mx a0 (wrap64 (-a0)) = wrap64 (-a0) from if_pos h]
    go_ret
    exact ⟨rfl, Drawn0.refl _⟩
  · have h : wrap64 (-a0) ≤ a0 := by assumption
    rw [show mx a0 (wrap64 (-a0)) = a0 from if_neg (by omega)]
    go_ret
    exact ⟨rfl, Drawn0.refl _⟩
def lit_Right.l0 : Nat → Int → List Int → Int → Int → Option (Int)
  | 0, _, _, _, _ => none
  | k + 1, x1, x10, x11, x12 => if x12 < x11 then (if 0 ≤ x12 then (if x12 < (x10.length : Int) then ((lit_is.f (rd x10 x12)).bind fun t112 => (if t112 = true then ((lit_variable.f (rd x10 x12)).bind fun t113 => (if t113 > x1 then (some 1) else (lit_Right.l0 k x1 x10 x11 (wrap64 (x12 + 1))))) else (some 1))) else (none)) else (none)) else (some 0)
def lit_Right.f (k : Nat) (l0 : List Int) (a1 : Int) : Option (Int) := if (l0.length : Int) > 64 then (some 2) else (lit_Right.l0 k a1 l0 (l0.length : Int) 0)
set_option maxHeartbeats 8000000 in
set_option maxRecDepth 100000 in
theorem lit_Right.calls (k : Nat) (A0 : Option Addr) (c0 : Nat) (l0 : List Int) (a1 : Int) (r : Int) (w : World) (hr0 : Kd.C (Kd.int .i64) w A0 l0.length l0) (hc0 : l0.length ≤ c0) (h : lit_Right.f k l0 a1 = some r) :
    Calls Try.prog 24 #[.slice A0 l0.length c0, .int .i64 a1] w fun e w' => e = .returned (.int .i64 r) ∧ Drawn0 w w' := by
  have HR0 := K0 hr0
  have HC0 := K0 hc0
  clear hr0 hc0
  have H : (if (l0.length : Int) > 64 then (some 2) else (lit_Right.l0 k a1 l0 (l0.length : Int) 0)) = some r := h
  clear h
  by_cases c3 : (l0.length : Int) > 64
  · rw [if_pos c3] at H
    have c3b0 : decide (64 < (l0.length : Int)) = true := zqt c3
    have c3b1 : decide (64 < l0.length) = true := zqt (by omega)
    clear c3
    as_aux_lemma =>
      obtain rfl := zqv H
      go_enter Try.func24, Try.ntmps24
      go_wp2
      go_ret
      exact ⟨by first | rfl | (simp; done) | (simp [*]; done), by repeat (first | exact Drawn0.refl _ | apply Drawn0.step)⟩
  · rw [if_neg c3] at H
    have c3b0 : decide (64 < (l0.length : Int)) = false := zqu c3
    have c3b1 : decide (64 < l0.length) = false := zqu (by omega)
    clear c3
    have H' := K0 H
    clear H
    go_enter Try.func24, Try.ntmps24
    go_wp2
    go_loopg [12] k (fun kq v12 w' => ∃ (x12_1 : Int), v12 = .int .i64 x12_1 ∧ Aside0 (lit_Right.l0 kq a1 l0 (l0.length : Int) x12_1 = some r) ∧ Aside0 (kq ≤ k) ∧ Drawn0 w w')
    case atStart => exact ⟨(0), (by first | rfl | (simp; done) | (simp [*]; done)), H', ⟨zqx _⟩, by repeat (first | exact Drawn0.refl _ | apply Drawn0.step)⟩
    case round =>
      clear H'
      try clear c2
      try clear p2
      try clear c3
      try clear c3b0
      try clear c3b1
      obtain ⟨x12_1, rfl, HA, HK1, ⟨m1, rfl⟩⟩ := hrel
      cases gk with
      | zero => exact absurd HA.out (by simp [lit_Right.l0])
      | succ k1 =>
        have H := HA.out
        clear HA
        simp only [lit_Right.l0] at H
        by_cases c4 : x12_1 < (l0.length : Int)
        · rw [if_pos c4] at H
          have c4b0 : decide (x12_1 < (l0.length : Int)) = true := zqt c4
          clear c4
          by_cases c5 : 0 ≤ x12_1
          · rw [if_pos c5] at H
            have c5b0 : decide (0 ≤ x12_1) = true := zqt c5
            clear c5
            by_cases c6 : x12_1 < (l0.length : Int)
            · rw [if_pos c6] at H
              have c6b0 : decide (x12_1 < (l0.length : Int)) = true := zqt c6
              clear c6
              replace H := Option.bind_eq_some_iff.mp H
              obtain ⟨t112, A70, H⟩ := H
              replace H : (if t112 = true then ((lit_variable.f (rd l0 x12_1)).bind fun t113 => (if t113 > a1 then (some 1) else (lit_Right.l0 k1 a1 l0 (l0.length : Int) (wrap64 (x12_1 + 1))))) else (some 1)) = some r := H
              have A7 := K0 A70
              clear A70
              by_cases c8 : t112 = true
              · subst c8
                have H1 : ((lit_variable.f (rd l0 x12_1)).bind fun t113 => (if t113 > a1 then (some 1) else (lit_Right.l0 k1 a1 l0 (l0.length : Int) (wrap64 (x12_1 + 1))))) = some r := by rw [if_pos rfl] at H; exact H
                clear H
                have H := H1
                clear H1
                replace H := Option.bind_eq_some_iff.mp H
                obtain ⟨t113, A90, H⟩ := H
                replace H : (if t113 > a1 then (some 1) else (lit_Right.l0 k1 a1 l0 (l0.length : Int) (wrap64 (x12_1 + 1)))) = some r := H
                have A9 := K0 A90
                clear A90
                by_cases c10 : t113 > a1
                · rw [if_pos c10] at H
                  have c10b0 : decide (a1 < t113) = true := zqt c10
                  clear c10
                  as_aux_lemma =>
                    obtain rfl := zqv H
                    have p111 : 0 ≤ (x12_1 : Int) := zqe (by first | (with_reducible assumption) | assumption)
                    have q111 : x12_1 < (l0.length : Int) := zqe (by first | (with_reducible assumption) | assumption)
                    obtain ⟨ad111, e111, hx111_0⟩ := Kd.at_int HR0.out x12_1 p111 q111
                    cases e111
                    replace p111 := eq_true p111
                    replace q111 := eq_true q111
                    go_wp2_with (first | ((with_reducible refine gate_callee (f := 33) rfl ?_); refine goesL_ (some 17) rfl rfl Try.func33 (by kernel_rfl) rfl #[.int .i64 (rd l0 x12_1)] rfl (by (try simp only [List.map_toArray, List.map_cons, List.map_nil]); first | done | rfl | (simp only [zqq, zqr]; rfl)) ?_; (with_reducible refine (lit_is.calls (rd l0 x12_1) true _ A7.out).mono ?_); rintro e w' ⟨rfl, ⟨nd, rfl⟩⟩; refine ⟨_, rfl, ?_⟩) | (go_at_call 34; (with_reducible refine (lit_variable.calls (rd l0 x12_1) t113 _ A9.out).mono ?_); rintro e w' ⟨rfl, ⟨nd, rfl⟩⟩))
                    go_ret
                    exact ⟨by first | rfl | (simp; done) | (simp [*]; done), by repeat (first | exact Drawn0.refl _ | apply Drawn0.step)⟩
                · rw [if_neg c10] at H
                  have c10b0 : decide (a1 < t113) = false := zqu c10
                  clear c10
                  as_aux_lemma =>
                    have H' := K0 H
                    clear H
                    have p111 : 0 ≤ (x12_1 : Int) := zqe (by first | (with_reducible assumption) | assumption)
                    have q111 : x12_1 < (l0.length : Int) := zqe (by first | (with_reducible assumption) | assumption)
                    obtain ⟨ad111, e111, hx111_0⟩ := Kd.at_int HR0.out x12_1 p111 q111
                    cases e111
                    replace p111 := eq_true p111
                    replace q111 := eq_true q111
                    go_wp2_with (first | ((with_reducible refine gate_callee (f := 33) rfl ?_); refine goesL_ (some 17) rfl rfl Try.func33 (by kernel_rfl) rfl #[.int .i64 (rd l0 x12_1)] rfl (by (try simp only [List.map_toArray, List.map_cons, List.map_nil]); first | done | rfl | (simp only [zqq, zqr]; rfl)) ?_; (with_reducible refine (lit_is.calls (rd l0 x12_1) true _ A7.out).mono ?_); rintro e w' ⟨rfl, ⟨nd, rfl⟩⟩; refine ⟨_, rfl, ?_⟩) | (go_at_call 34; (with_reducible refine (lit_variable.calls (rd l0 x12_1) t113 _ A9.out).mono ?_); rintro e w' ⟨rfl, ⟨nd, rfl⟩⟩))
                    go_roundg k1
                    case measure => have := HK1.out; omega
                    case rel => exact ⟨(wrap64 (x12_1 + 1)), (by first | rfl | (simp; done) | (simp [*]; done)), H', ⟨by have := HK1.out; omega⟩, by repeat (first | exact Drawn0.refl _ | apply Drawn0.step)⟩
              · replace c8 := Bool.eq_false_iff.mpr c8
                subst c8
                have H1 : (some 1) = some r := by rw [if_neg (show ¬ (false = true) by decide)] at H; exact H
                clear H
                have H := H1
                clear H1
                as_aux_lemma =>
                  obtain rfl := zqv H
                  have p111 : 0 ≤ (x12_1 : Int) := zqe (by first | (with_reducible assumption) | assumption)
                  have q111 : x12_1 < (l0.length : Int) := zqe (by first | (with_reducible assumption) | assumption)
                  obtain ⟨ad111, e111, hx111_0⟩ := Kd.at_int HR0.out x12_1 p111 q111
                  cases e111
                  replace p111 := eq_true p111
                  replace q111 := eq_true q111
                  go_wp2_with (first | ((with_reducible refine gate_callee (f := 33) rfl ?_); refine goesL_ (some 17) rfl rfl Try.func33 (by kernel_rfl) rfl #[.int .i64 (rd l0 x12_1)] rfl (by (try simp only [List.map_toArray, List.map_cons, List.map_nil]); first | done | rfl | (simp only [zqq, zqr]; rfl)) ?_; (with_reducible refine (lit_is.calls (rd l0 x12_1) false _ A7.out).mono ?_); rintro e w' ⟨rfl, ⟨nd, rfl⟩⟩; refine ⟨_, rfl, ?_⟩))
                  go_ret
                  exact ⟨by first | rfl | (simp; done) | (simp [*]; done), by repeat (first | exact Drawn0.refl _ | apply Drawn0.step)⟩
            · rw [if_neg c6] at H
              exact absurd H (by simp)
          · rw [if_neg c5] at H
            exact absurd H (by simp)
        · rw [if_neg c4] at H
          have c4b0 : decide (x12_1 < (l0.length : Int)) = false := zqu c4
          clear c4
          as_aux_lemma =>
            obtain rfl := zqv H
            go_wp2
            go_ret
            exact ⟨by first | rfl | (simp; done) | (simp [*]; done), by repeat (first | exact Drawn0.refl _ | apply Drawn0.step)⟩
mutual
def cnf_Right.j0 : Nat → Bool → Int → List (List Int) → Option (Int × Int)
  | 0, _, _, _ => none
  | k + 1, x14, x115000, x115001 => if x14 = true then (some ((-1), 1)) else (if (x115001.length : Int) > 4096 then (some ((-1), 2)) else (cnf_Right.l0 k x115001 (x115001.length : Int) 0 x115000 x115001))
def cnf_Right.l0 : Nat → List (List Int) → Int → Int → Int → List (List Int) → Option (Int × Int)
  | 0, _, _, _, _, _ => none
  | k + 1, x20, x21, x22, x115000, x115001 => if x22 < x21 then (if 0 ≤ x22 then (if x22 < (x20.length : Int) then ((lit_Right.f k (rd_L3 x20 x22) x115000).bind fun t116 => (if t116 = 0 then (cnf_Right.l0 k x20 x21 (wrap64 (x22 + 1)) x115000 x115001) else (some (x22, t116)))) else (none)) else (none)) else (some (0, 0))
end
def cnf_Right.f (k : Nat) (a0_0 : Int) (l0_1 : List (List Int)) : Option (Int × Int) := if a0_0 < 0 then (cnf_Right.j0 k true a0_0 l0_1) else (cnf_Right.j0 k (decide (a0_0 > 1024)) a0_0 l0_1)
set_option maxHeartbeats 8000000 in
set_option maxRecDepth 100000 in
theorem cnf_Right.calls (k : Nat) (a0_0 : Int) (A0_1 : Option Addr) (c0_1 : Nat) (l0_1 : List (List Int)) (r1 : Int) (r2 : Int) (w : World) (hr0_1 : Kd.C (Kd.slice 3 (Kd.int .i64)) w A0_1 l0_1.length l0_1) (hc0_1 : l0_1.length ≤ c0_1) (h : cnf_Right.f k a0_0 l0_1 = some (r1, r2)) :
    Calls Try.prog 23 #[.agg #[.int .i64 a0_0, .slice A0_1 l0_1.length c0_1]] w fun e w' => e = .returned (.tuple #[.int .i64 r1, .int .i64 r2]) ∧ Below w.heap.size w w' := by
  have hu24 := Try.underlying24
  have HR0_1 := K0 hr0_1; have HC0_1 := K0 hc0_1; clear hr0_1 hc0_1
  have HB := K0 (zqw w.heap.size w)
  have H : (if a0_0 < 0 then (cnf_Right.j0 k true a0_0 l0_1) else (cnf_Right.j0 k (decide (a0_0 > 1024)) a0_0 l0_1)) = some (r1, r2) := h
  clear h; have HC2 := K0 H; clear H
  go_enter Try.func23, Try.ntmps23
  go_upto_region 1 with (first | ((with_reducible refine gate_dst (N := 1) rfl ?_); refine box_event ?hg (N := 1) ?hd (cs := #[.int .i64 a0_0, .slice A0_1 l0_1.length c0_1]) (t := 24) ?hr ?_; (case hd => rfl); (case hg => rfl); (case hr => first | (go_simp; done) | (go_simp; rfl)); intro gb114 hg w3 hbox hb; have n0_ := K0 (zqo (by repeat (first | (with_reducible first | exact HB.out | apply zqb | apply zqa | apply zqc) | exact HB.out)) hb); have n1_ := K0 (hbox); have n2_ := K0 ((by rw [hg]; exact (zqp (by repeat (first | (with_reducible first | exact HB.out | apply zqb | apply zqa | apply zqc) | exact HB.out))) : w.heap.size ≤ gb114)); have n3_ := K0 ((by rw [hg]; exact (zqp (by repeat (first | (with_reducible first | exact HB.out | apply zqb | apply zqa | apply zqc) | exact HB.out))) : w.heap.size ≤ gb114)); clear HB; have HB := n0_; have BK114 := n1_; have GW114 := n2_; have GE114 := n3_; clear n0_ n1_ n2_ n3_; clear hb hbox hg))
  (try simp only [Act.put, zqf, zqg, zqh])
  go_cut [14] (fun v14 wc => ∃ (kq : Nat) (x14_1 : Bool), v14 = .bool x14_1 ∧ Aside0 (cnf_Right.j0 kq x14_1 a0_0 l0_1 = some (r1, r2)) ∧ Aside0 (kq ≤ k) ∧ Aside0 (wc.heap[gb114]? = some (.cells #[.int .i64 a0_0, (.slice A0_1 l0_1.length c0_1)] 24 (0, 0))) ∧ Aside0 (Below w.heap.size w wc))
  case first =>
    have H := HC2.out
    clear HC2
    by_cases c4 : a0_0 < 0
    case pos =>
      rw [if_pos c4] at H
      have c4b0 : decide (a0_0 < 0) = true := zqt c4
      clear c4
      (first | rw [c4b0] | (simp only [i64_w, i32_w]; rw [c4b0]) | skip)
      as_aux_lemma =>
        have H' := K0 H
        clear H
        have hcz5_0 : w3.cell? ⟨gb114, 0, none⟩ = some (.int .i64 a0_0) := (zql BK114.out 0).trans rfl
        have hcz5_1 : w3.cell? ⟨gb114, 1, none⟩ = some (.slice A0_1 l0_1.length c0_1) := (zql BK114.out 1).trans rfl
        have hfz5_0 := zqm BK114.out 0; have hfz5_1 := zqm BK114.out 1
        go_wp2
        go_meet
        case rel => exact ⟨_, (true), (by first | rfl | (simp; done) | (simp [*]; done)), H', ⟨by first | omega | exact zqx _⟩, ⟨by (with_reducible repeat (first | refine zqj ?_ _ | refine zqk ?_ | refine zqi ?_ _)); exact BK114.out⟩, ⟨by repeat (first | (with_reducible first | exact HB.out | apply zqb | apply zqa | apply zqc | refine zqd ?_ GE114.out) | exact HB.out)⟩⟩
    rw [if_neg c4] at H
    have c4b0 : decide (a0_0 < 0) = false := zqu c4
    clear c4
    (first | rw [c4b0] | (simp only [i64_w, i32_w]; rw [c4b0]) | skip)
    as_aux_lemma =>
      have H' := K0 H
      clear H
      have hcz6_0 : w3.cell? ⟨gb114, 0, none⟩ = some (.int .i64 a0_0) := (zql BK114.out 0).trans rfl
      have hcz6_1 : w3.cell? ⟨gb114, 1, none⟩ = some (.slice A0_1 l0_1.length c0_1) := (zql BK114.out 1).trans rfl
      have hfz6_0 := zqm BK114.out 0; have hfz6_1 := zqm BK114.out 1
      go_wp2
      go_meet
      case rel => exact ⟨_, (decide (a0_0 > 1024)), (by first | rfl | (simp; done) | (simp [*]; done)), H', ⟨by first | omega | exact zqx _⟩, ⟨by (with_reducible repeat (first | refine zqj ?_ _ | refine zqk ?_ | refine zqi ?_ _)); exact BK114.out⟩, ⟨by repeat (first | (with_reducible first | exact HB.out | apply zqb | apply zqa | apply zqc | refine zqd ?_ GE114.out) | exact HB.out)⟩⟩
  case rest =>
    clear HC2; try clear c2; try clear p2; try clear c4; try clear c4b0; try clear hcz5_0; try clear hcz5_1; try clear hcz6_0; try clear hcz6_1; try clear hfz5_0; try clear hfz5_1; try clear hfz6_0; try clear hfz6_1
    obtain ⟨kq, x14_1, rfl, HA, HJ1, BK114, HB⟩ := hcut
    cases kq with
    | zero => exact absurd HA.out (by simp [cnf_Right.j0])
    | succ kj1 =>
      have H := HA.out
      clear HA
      simp only [cnf_Right.j0] at H
      by_cases c7 : x14_1 = true
      case pos =>
        subst c7
        have H1 : (some ((-1), 1)) = some (r1, r2) := by rw [if_pos rfl] at H; exact H
        clear H
        have H := H1
        clear H1
        as_aux_lemma =>
          simp only [Option.some.injEq, Prod.mk.injEq] at H
          obtain ⟨rfl, rfl⟩ := H
          go_wp2
          go_ret2
          exact ⟨by first | rfl | (simp [errW_none, errW_some] <;> rfl) | (simp [*, errW_none, errW_some] <;> rfl), by repeat (first | (with_reducible first | exact HB.out | apply zqb | apply zqa | apply zqc | refine zqd ?_ GE114.out) | exact HB.out)⟩
      replace c7 := Bool.eq_false_iff.mpr c7
      subst c7
      have H1 : (if (l0_1.length : Int) > 4096 then (some ((-1), 2)) else (cnf_Right.l0 kj1 l0_1 (l0_1.length : Int) 0 a0_0 l0_1)) = some (r1, r2) := by rw [if_neg (show ¬ (false = true) by decide)] at H; exact H
      clear H
      have H := H1
      clear H1
      by_cases c8 : (l0_1.length : Int) > 4096
      case pos =>
        rw [if_pos c8] at H
        have c8b0 : decide (4096 < (l0_1.length : Int)) = true := zqt c8
        have c8b1 : decide (4096 < l0_1.length) = true := zqt (by omega)
        clear c8
        as_aux_lemma =>
          simp only [Option.some.injEq, Prod.mk.injEq] at H
          obtain ⟨rfl, rfl⟩ := H
          have hcz9_0 : wc.cell? ⟨gb114, 0, none⟩ = some (.int .i64 a0_0) := (zql BK114.out 0).trans rfl
          have hcz9_1 : wc.cell? ⟨gb114, 1, none⟩ = some (.slice A0_1 l0_1.length c0_1) := (zql BK114.out 1).trans rfl
          have hfz9_0 := zqm BK114.out 0; have hfz9_1 := zqm BK114.out 1
          go_wp2
          go_ret2
          exact ⟨by first | rfl | (simp [errW_none, errW_some] <;> rfl) | (simp [*, errW_none, errW_some] <;> rfl), by repeat (first | (with_reducible first | exact HB.out | apply zqb | apply zqa | apply zqc | refine zqd ?_ GE114.out) | exact HB.out)⟩
      rw [if_neg c8] at H
      have c8b0 : decide (4096 < (l0_1.length : Int)) = false := zqu c8
      have c8b1 : decide (4096 < l0_1.length) = false := zqu (by omega)
      clear c8
      have H' := K0 H
      clear H
      have hcz10_0 : wc.cell? ⟨gb114, 0, none⟩ = some (.int .i64 a0_0) := (zql BK114.out 0).trans rfl
      have hcz10_1 : wc.cell? ⟨gb114, 1, none⟩ = some (.slice A0_1 l0_1.length c0_1) := (zql BK114.out 1).trans rfl
      have hfz10_0 := zqm BK114.out 0; have hfz10_1 := zqm BK114.out 1
      go_wp2
      go_loopg [22] kj1 (fun kq v22 w' => ∃ (x22_2 : Int), v22 = .int .i64 x22_2 ∧ Aside0 (cnf_Right.l0 kq l0_1 (l0_1.length : Int) x22_2 a0_0 l0_1 = some (r1, r2)) ∧ Aside0 (kq ≤ kj1) ∧ Aside0 (w'.heap[gb114]? = some (.cells #[.int .i64 a0_0, (.slice A0_1 l0_1.length c0_1)] 24 (0, 0))) ∧ Aside0 (Below w.heap.size w w'))
      case atStart => exact ⟨(0), (by first | rfl | (simp; done) | (simp [*]; done)), H', ⟨zqx _⟩, ⟨by (with_reducible repeat (first | refine zqj ?_ _ | refine zqk ?_ | refine zqi ?_ _)); exact BK114.out⟩, ⟨by repeat (first | (with_reducible first | exact HB.out | apply zqb | apply zqa | apply zqc | refine zqd ?_ GE114.out) | exact HB.out)⟩⟩
      case round =>
        clear H'; try clear c2; try clear p2; try clear c4; try clear c4b0; try clear c7; try clear c8; try clear c8b0; try clear c8b1; try clear hcz10_0; try clear hcz10_1; try clear hcz5_0; try clear hcz5_1; try clear hcz6_0; try clear hcz6_1; try clear hcz9_0; try clear hcz9_1; try clear hfz10_0; try clear hfz10_1; try clear hfz5_0; try clear hfz5_1; try clear hfz6_0; try clear hfz6_1; try clear hfz9_0; try clear hfz9_1; try clear p2
        obtain ⟨x22_2, rfl, HA, HK2, BK114, HB⟩ := hrel
        cases gk with
        | zero => exact absurd HA.out (by simp [cnf_Right.l0])
        | succ k2 =>
          have H := HA.out
          clear HA
          simp only [cnf_Right.l0] at H
          by_cases c11 : x22_2 < (l0_1.length : Int)
          case neg =>
            rw [if_neg c11] at H
            have c11b0 : decide (x22_2 < (l0_1.length : Int)) = false := zqu c11
            clear c11
            as_aux_lemma =>
              simp only [Option.some.injEq, Prod.mk.injEq] at H
              obtain ⟨rfl, rfl⟩ := H
              go_wp2
              go_ret2
              exact ⟨by first | rfl | (simp [errW_none, errW_some] <;> rfl) | (simp [*, errW_none, errW_some] <;> rfl), by repeat (first | (with_reducible first | exact HB.out | apply zqb | apply zqa | apply zqc | refine zqd ?_ GE114.out) | exact HB.out)⟩
          rw [if_pos c11] at H
          have c11b0 : decide (x22_2 < (l0_1.length : Int)) = true := zqt c11
          clear c11
          by_cases c12 : 0 ≤ x22_2
          case neg =>
            rw [if_neg c12] at H
            exact absurd H (by simp)
          rw [if_pos c12] at H
          have c12b0 : decide (0 ≤ x22_2) = true := zqt c12
          clear c12
          by_cases c13 : x22_2 < (l0_1.length : Int)
          case neg =>
            rw [if_neg c13] at H
            exact absurd H (by simp)
          rw [if_pos c13] at H
          have c13b0 : decide (x22_2 < (l0_1.length : Int)) = true := zqt c13
          clear c13
          replace H := Option.bind_eq_some_iff.mp H
          obtain ⟨t116, A140, H⟩ := H
          replace H : (if t116 = 0 then (cnf_Right.l0 k2 l0_1 (l0_1.length : Int) (wrap64 (x22_2 + 1)) a0_0 l0_1) else (some (x22_2, t116))) = some (r1, r2) := H
          have A14 := K0 A140; clear A140
          by_cases c15 : t116 = 0
          case neg =>
            rw [if_neg c15] at H
            have c15b0 : (t116 == 0) = false := beq_eq_false_iff_ne.mpr c15
            have c15b1 : (t116 != 0) = true := bne_iff_ne.mpr c15
            as_aux_lemma =>
              simp only [Option.some.injEq, Prod.mk.injEq] at H
              obtain ⟨rfl, rfl⟩ := H
              have p115 : 0 ≤ (x22_2 : Int) := zqe (by first | (with_reducible assumption) | assumption)
              have q115 : x22_2 < (l0_1.length : Int) := zqe (by first | (with_reducible assumption) | assumption)
              obtain ⟨ad115, A115_0, c115_0, e115, hx115_0, hl115_0, hi115_0⟩ := at_L3 HR0_1.out x22_2 p115 q115
              cases e115
              replace hx115_0 := (HB.out.cell (World.block_lt_of_cell? w _ hx115_0)).trans hx115_0
              have HR115_0 := K0 hi115_0; have HC115_0 := K0 hl115_0; clear hi115_0 hl115_0; replace p115 := eq_true p115; replace q115 := eq_true q115
              have hcz17_0 : wr.cell? ⟨gb114, 0, none⟩ = some (.int .i64 a0_0) := (zql BK114.out 0).trans rfl
              have hcz17_1 : wr.cell? ⟨gb114, 1, none⟩ = some (.slice (some ad115) l0_1.length c0_1) := (zql BK114.out 1).trans rfl
              have hfz17_0 := zqm BK114.out 0; have hfz17_1 := zqm BK114.out 1
              go_wp2_with (first | ((with_reducible refine gate_callee (f := 24) rfl ?_); refine goesL_ (some 30) rfl rfl Try.func24 (by kernel_rfl) rfl #[.slice A115_0 (rd_L3 l0_1 x22_2).length c115_0, .int .i64 a0_0] rfl (by (try simp only [List.map_toArray, List.map_cons, List.map_nil]); first | done | rfl | (simp only [zqq, zqr]; rfl)) ?_; (with_reducible refine (lit_Right.calls k2 _ _ (rd_L3 l0_1 x22_2) a0_0 t116 _ ?side1 ?side2 A14.out).mono ?_); (case side1 => repeat (first | exact (Kd.C_below HR115_0.out HB.out) | (with_reducible refine Kd.C_alloc ?_ _) | (with_reducible refine Kd.C_drewN ?_ _) | (with_reducible refine Kd.C_drew ?_))); (case side2 => exact HC115_0.out); rintro e w' ⟨rfl, ⟨nd, rfl⟩⟩; refine ⟨_, rfl, ?_⟩))
              go_ret2
              exact ⟨by first | rfl | (simp [errW_none, errW_some] <;> rfl) | (simp [*, errW_none, errW_some] <;> rfl), by repeat (first | (with_reducible first | exact HB.out | apply zqb | apply zqa | apply zqc | refine zqd ?_ GE114.out) | exact HB.out)⟩
          rw [if_pos c15] at H
          have c15b0 : (t116 == 0) = true := beq_iff_eq.mpr c15
          have c15b1 : (t116 != 0) = false := bne_eq_false_iff_eq.mpr c15
          clear c15
          as_aux_lemma =>
            have H' := K0 H
            clear H
            have p115 : 0 ≤ (x22_2 : Int) := zqe (by first | (with_reducible assumption) | assumption)
            have q115 : x22_2 < (l0_1.length : Int) := zqe (by first | (with_reducible assumption) | assumption)
            obtain ⟨ad115, A115_0, c115_0, e115, hx115_0, hl115_0, hi115_0⟩ := at_L3 HR0_1.out x22_2 p115 q115
            cases e115
            replace hx115_0 := (HB.out.cell (World.block_lt_of_cell? w _ hx115_0)).trans hx115_0
            have HR115_0 := K0 hi115_0; have HC115_0 := K0 hl115_0; clear hi115_0 hl115_0; replace p115 := eq_true p115; replace q115 := eq_true q115
            have hcz16_0 : wr.cell? ⟨gb114, 0, none⟩ = some (.int .i64 a0_0) := (zql BK114.out 0).trans rfl
            have hcz16_1 : wr.cell? ⟨gb114, 1, none⟩ = some (.slice (some ad115) l0_1.length c0_1) := (zql BK114.out 1).trans rfl
            have hfz16_0 := zqm BK114.out 0; have hfz16_1 := zqm BK114.out 1
            go_wp2_with (first | ((with_reducible refine gate_callee (f := 24) rfl ?_); refine goesL_ (some 30) rfl rfl Try.func24 (by kernel_rfl) rfl #[.slice A115_0 (rd_L3 l0_1 x22_2).length c115_0, .int .i64 a0_0] rfl (by (try simp only [List.map_toArray, List.map_cons, List.map_nil]); first | done | rfl | (simp only [zqq, zqr]; rfl)) ?_; (with_reducible refine (lit_Right.calls k2 _ _ (rd_L3 l0_1 x22_2) a0_0 t116 _ ?side1 ?side2 A14.out).mono ?_); (case side1 => repeat (first | exact (Kd.C_below HR115_0.out HB.out) | (with_reducible refine Kd.C_alloc ?_ _) | (with_reducible refine Kd.C_drewN ?_ _) | (with_reducible refine Kd.C_drew ?_))); (case side2 => exact HC115_0.out); rintro e w' ⟨rfl, ⟨nd, rfl⟩⟩; refine ⟨_, rfl, ?_⟩))
            go_roundg k2
            case measure => have := HJ1.out; have := HK2.out; omega
            case rel => exact ⟨(wrap64 (x22_2 + 1)), (by first | rfl | (simp; done) | (simp [*]; done)), H', ⟨by have := HJ1.out; have := HK2.out; omega⟩, ⟨by (with_reducible repeat (first | refine zqj ?_ _ | refine zqk ?_ | refine zqi ?_ _)); exact BK114.out⟩, ⟨by repeat (first | (with_reducible first | exact HB.out | apply zqb | apply zqa | apply zqc | refine zqd ?_ GE114.out) | exact HB.out)⟩⟩
def Eng.val (E : Eng) (l : Int) : Int := if (E.ms l).isSome = true then 1 else if (E.ms (wrap64 (-l))).isSome = true then -1 else 0
theorem wf_wrap (l : Int) : (Lit.int .i64 (wrap64 (-l))).wf = true := by
  have a : IntKind.i64.min = -9223372036854775808 := by decide
  have b : IntKind.i64.max = 9223372036854775807 := by decide
  unfold Lit.wf wrap64
  rw [Bool.and_eq_true, decide_eq_true_eq, decide_eq_true_eq]
  omega
theorem zero_mark (W : World) : (zeroValue 96).run Try.prog W = .ok (.agg #[.int .i64 0, .int .i64 0]) W := by kernel_rfl
theorem EngIn.look {w : World} {B : Nat} {T : Tag} {E : Eng} {p : EngP} (h : EngIn w B T E p) {W : World} (hb : Below w.heap.size w W) {x : Int} (hx : (Lit.int .i64 x).wf = true) :
    (Instr.lookup 68 (.map (some p.bm)) (.int .i64 x) true).run Try.prog W = .ok (.tuple #[.agg #[.int .i64 ((E.ms x).getD (0, 0)).1, .int .i64 ((E.ms x).getD (0, 0)).2], .bool (E.ms x).isSome]) W := by
  have := (h.below hb).ms.look_ok Try.underlying3 Try.underlying68 (zero_mark W) hx
  rw [this]
  unfold mkV
  cases E.ms x <;> rfl
set_option maxRecDepth 100000 in
set_option maxHeartbeats 1000000 in
theorem eng_Value.calls (E : Eng) (B : Nat) (T : Tag) (p : EngP) (l : Int) (w : World) (h : EngIn w B T E p) (hl : (Lit.int .i64 l).wf = true) :
    Calls Try.prog 54 #[.pointer (some ⟨B, 0, none⟩), .int .i64 l] w fun e w' => e = .returned (.int .i64 (E.val l)) ∧ Below w.heap.size w w' := by
  have q1 := h.look (zqw _ w) hl
  have c4 := h.cells.2.2.2.2.1
  obtain ⟨m1, hm1⟩ : ∃ m, (E.ms l).getD (0, 0) = m := ⟨_, rfl⟩
  obtain ⟨m2, hm2⟩ : ∃ m, (E.ms (wrap64 (-l))).getD (0, 0) = m := ⟨_, rfl⟩
  have hb2 : Below w.heap.size w (w.alloc (.cells #[.int .i64 m1.1, .int .i64 m1.2] 96)) := zqb (zqw _ _) _
  have q2 := h.look hb2 (wf_wrap l)
  have c42 := (h.below hb2).cells.2.2.2.2.1
  have hu := Try.underlying96
  have P6 : IntKind.i64.wrap (-l) = wrap64 (-l) := Go.IntWalk.i64_left _
  rw [hm1] at q1
  rw [hm2] at q2
  unfold Eng.val
  obtain ⟨b1, e1⟩ : ∃ b, (E.ms l).isSome = b := ⟨_, rfl⟩
  obtain ⟨b2, e2⟩ : ∃ b, (E.ms (wrap64 (-l))).isSome = b := ⟨_, rfl⟩
  rw [e1] at q1 ⊢
  rw [e2] at q2 ⊢
  clear hm1 hm2 e1 e2
  cases b1 with
  | true =>
    go_enter Try.func54, Try.ntmps54
    go_wp2
    go_ret
    exact ⟨rfl, by first | exact hb2 | (repeat (first | exact zqw _ _ | apply zqb))⟩
  | false =>
    cases b2 with
    | true =>
      go_enter Try.func54, Try.ntmps54
      go_wp2
      go_ret
      exact ⟨rfl, by repeat (first | exact zqw _ _ | apply zqb)⟩
    | false =>
      go_enter Try.func54, Try.ntmps54
      go_wp2
      go_ret
      exact ⟨rfl, by repeat (first | exact zqw _ _ | apply zqb)⟩
def Eng.put (E : Eng) (l why : Int) : Eng := { E with tr := E.tr ++ [l], ms := fun x => if x = l then some ((E.st.length : Int), why) else E.ms x }
theorem mkV_set (f : Int → Option (Int × Int)) (l a b : Int) (x : Int) : setI (mkV f) l (some (.agg #[.int .i64 a, .int .i64 b])) x = mkV (fun x => if x = l then some (a, b) else f x) x := by
  unfold setI mkV
  by_cases h : x = l
  · simp only [if_pos h]; rfl
  · simp only [if_neg h]
set_option maxRecDepth 100000 in
set_option maxHeartbeats 1000000 in
theorem eng_put.calls (E : Eng) (B : Nat) (T : Tag) (p : EngP) (l why : Int) (w : World) (h : EngIn w B T E p) (hl : (Lit.int .i64 l).wf = true) (hlen : E.tr.length < 4398046511104) :
    Calls Try.prog 66 #[.pointer (some ⟨B, 0, none⟩), .int .i64 l, .int .i64 why] w fun e w' => e = .returned (.tuple #[]) ∧ EngPost B T p (E.put l why) w w' := by
  have c3 := h.cells.2.2.2.1
  have f3 := h.cells.2.2.2.2.2.2.2 3
  have HE := K0 h
  have HLN := K0 hlen
  clear h hlen
  go_enter Try.func66, Try.ntmps66
  go_wp2_with (at_builtin; refine Kd.R_append (Kd.int .i64) (w0 := w) 0 rfl (.tmp 10) (.tmp 12) 25 3 (.int .i64 0) 8 rfl Try.underlying25 (by kernel_rfl) rfl (by decide) (by decide) p.vT E.tr l [.int .i64 l] (fun k => T k = (4, 0) ∨ w.heap.size ≤ k) (fun _ => False) rfl rfl rfl (fun _ h => h.elim) (fun k hk => .inr hk) (Kd.R_mono HE.out.tr (fun _ hk => .inl hk)) (zqw 0 _) (Nat.zero_le _) (by have := HLN.out; omega) ?_; intro v1 w1 r1 hb1 hg1 hat1; obtain ⟨A1, k1, e1⟩ := Kd.R_slice r1; rw [List.length_append, List.length_singleton] at e1; subst e1; obtain ⟨c31, f31⟩ : w1.cell? ⟨B, 3, none⟩ = some p.vT ∧ w1.frozen? ⟨B, 3, none⟩ = false := HE.out.after HE.out.tr.1 (by decide) hg1 3)
  obtain ⟨T1, E1, p1, h1, m1, hE1, hf1⟩ : ∃ T1 E1 p1, EngIn (w1.setCell ⟨B, 3, none⟩ (.slice A1 (E.tr.length + 1) k1)) B T1 E1 p1 ∧ Moved T T1 w (w1.setCell ⟨B, 3, none⟩ (.slice A1 (E.tr.length + 1) k1)) ∧ E1 = { E with tr := E.tr ++ [l] } ∧ p1.fw = p.fw := by
    obtain ⟨a1, a2⟩ := HE.out.turn_tr r1 hg1 (fun x hx => List.mem_append.2 (.inl (HE.out.mst x hx)))
    exact ⟨_, _, _, a1, a2, rfl, rfl⟩
  clear hb1 r1 hg1 hat1 c3 f3 c31 f31
  obtain ⟨W1, hW1⟩ : ∃ W1, w1.setCell ⟨B, 3, none⟩ (.slice A1 (E.tr.length + 1) k1) = W1 := ⟨_, rfl⟩
  rw [hW1] at h1 m1 ⊢
  have HE1 := K0 hE1
  have HF1 := K0 hf1
  have HD := K0 (h1.below (below_drew (zqw _ W1)))
  have HM := K0 (m1.trans (Moved.of_below (below_drew (zqw _ W1))))
  clear hW1 h1 m1 hE1 hf1
  have c4 := HD.out.cells.2.2.2.2.1
  obtain ⟨A5, n5, e5⟩ := Kd.R_slice HD.out.st
  have c5 := HD.out.cells.2.2.2.2.2.1
  rw [e5] at c5
  clear e5
  go_still_tail 12, (by kernel_rfl)
  refine wpList_store_I rfl (.tmp 19) (.tmp 20) (.tmp 27) 68 rfl 3 96 Try.underlying3 Try.underlying68 p1.bm (mkV E1.ms) rfl HD.out.ms l (.agg #[.int .i64 (E1.st.length : Int), .int .i64 why]) rfl rfl hl E1.tr (fun x hx => HD.out.mst x (by unfold mkV at hx; simpa using hx)) ?_ ?_
  · rw [HE1.out]
    have := HLN.out
    simp; omega
  · intro w2 hM2 hg2
    obtain ⟨h2, m2⟩ := HD.out.turn_ms (hM2.congr (mkV_set _ _ _ _)) hg2 (fun x hx => by
      by_cases e : x = l
      · rw [e, HE1.out]; simp
      · simp only [if_neg e] at hx
        exact HD.out.mst x hx)
    have H2 := K0 h2
    have M2 := K0 (HM.out.trans m2)
    clear h2 m2 hM2 hg2
    go_wp2
    go_end0
    refine ⟨rfl, T1, p1, ?_, M2.out, HF1.out⟩
    have h := H2.out
    rw [HE1.out] at h
    exact h
def scanU (E : Eng) : List Int → Int → Option Int
  | [], o => some o
  | l :: t, o => if E.val l > 0 then none else if E.val l = 0 then (if o = 0 then scanU E t l else none) else scanU E t o
def Eng.look (E : Eng) (n : Nat) : Eng := match scanU E (E.cls.getD n []) 0 with
  | none => E
  | some o => if o = 0 then { E with br := (n : Int) } else E.put o (n : Int)
theorem Eng.val_or (E : Eng) (l : Int) : E.val l = 1 ∨ E.val l = 0 ∨ E.val l = -1 := by
  unfold Eng.val
  split
  · exact .inl rfl
  · split
    · exact .inr (.inr rfl)
    · exact .inr (.inl rfl)
theorem EngIn.row {w : World} {B : Nat} {T : Tag} {E : Eng} {p : EngP} (h : EngIn w B T E p) (n : Nat) (hn : n < E.cls.length) : ∃ ad k A c, p.vC = .slice (some ad) E.cls.length k ∧ w.cell? (ad.add n) = some (.slice A E.cls[n].length c) ∧ Kd.C (Kd.int .i64) w A E.cls[n].length E.cls[n] := by
  obtain ⟨A0, k, e0⟩ := Kd.R_slice h.cls
  have hC := h.cls
  rw [e0] at hC
  obtain ⟨_, _, h3⟩ := Kd.R_reads' hC
  obtain ⟨ad, c, e1, hc1, hK, hcell⟩ := Kd.C_get h3 ((none, 0, 0) : Hd) (n : Int) (by omega) (by rw [h.len]; omega)
  have hx : p.hs[n]? = some (p.hs.getD n (none, 0, 0)) := by simp [show n < p.hs.length by rw [h.len]; exact hn]
  have hr := h.rows n _ _ hx (List.getElem?_eq_getElem hn)
  obtain ⟨A, c2, e2⟩ := Kd.R_slice hr
  have hr2 := hr
  rw [e2] at hr2
  have hK2 : c = [hdv (p.hs.getD ((n : Int).toNat) (none, 0, 0))] := hK
  refine ⟨ad, k, A, c2, by rw [e0, e1, h.len], ?_, (Kd.R_reads' hr2).2.2⟩
  have := hcell 0 _ (by rw [hK2, Int.toNat_natCast, e2]; rfl)
  rw [show ((n : Int).toNat * Kd.sz kH + 0) = n by rw [Int.toNat_natCast]; show n * 1 + 0 = n; omega] at this
  exact this
set_option maxRecDepth 100000 in
set_option maxHeartbeats 2000000 in
theorem eng_look.calls (E : Eng) (B : Nat) (T : Tag) (p : EngP) (n : Nat) (w : World) (h : EngIn w B T E p) (hn : n < E.cls.length) (hlit : ∀ x ∈ E.cls[n], (Lit.int .i64 x).wf = true) (hlen : E.tr.length < 4398046511104) :
    Calls Try.prog 52 #[.pointer (some ⟨B, 0, none⟩), .int .i64 (n : Int)] w fun e w' => e = .returned (.tuple #[]) ∧ EngPost B T p (E.look n) w w' := by
  obtain ⟨ad, k, A, c, e0, cr, hC⟩ := h.row n hn
  have c1 := h.cells.2.1
  rw [e0] at c1
  have hlk : E.look n = match scanU E E.cls[n] 0 with | none => E | some o => if o = 0 then { E with br := (n : Int) } else E.put o (n : Int) := by
    unfold Eng.look
    rw [List.getD_eq_getElem?_getD, List.getElem?_eq_getElem hn, Option.getD_some]
  obtain ⟨cl, hcl⟩ : ∃ cl, E.cls[n] = cl := ⟨_, rfl⟩
  rw [hcl] at cr hC hlk hlit
  obtain ⟨E2, hE2⟩ : ∃ E2, E.look n = E2 := ⟨_, rfl⟩
  rw [hE2] at hlk ⊢
  have hbig := hC.2.1
  have hcb : (E.cls.length : Int) ≤ 9223372036854775807 := by have := (Kd.R_reads' (e0 ▸ h.cls)).2.2.2.1; rw [h.len] at this; omega
  have HE := K0 h
  have HC := K0 hC
  have HK := K0 hlk
  have HL := K0 hlit
  have HLN := K0 hlen
  have p0 : ((0 : Int) ≤ (n : Int)) = True := eq_true (by omega)
  have p1 : ((n : Int) < (E.cls.length : Int)) = True := eq_true (by omega)
  have p2 : (n < E.cls.length) = True := eq_true hn
  clear h hC hlk hlit hlen hcl hE2 e0
  go_enter Try.func52, Try.ntmps52
  go_wp2
  go_loopg [4, 6, 7, 16, 23, 26, 33] cl.length (fun gg v4 _ _ v16 _ _ _ wr => ∃ (o : Int) (j : Nat), v4 = .int .i64 o ∧ v16 = .int .i64 (j : Int) ∧ Aside0 (j + gg = cl.length) ∧ Aside0 (Below w.heap.size w wr) ∧ Aside0 (scanU E cl 0 = scanU E (cl.drop j) o) ∧ Aside0 (o = 0 ∨ o ∈ cl))
  case atStart => exact ⟨0, 0, rfl, rfl, ⟨by simp⟩, ⟨zqw _ _⟩, ⟨rfl⟩, ⟨.inl rfl⟩⟩
  case round =>
    clear c1 cr
    obtain ⟨o, j, rfl, rfl, hg, hB, hS, hO⟩ := hrel
    by_cases hlt : j < cl.length
    · obtain ⟨ad2, e1, x1⟩ := Kd.at_int (Kd.C_below HC.out hB.out) (j : Int) (by omega) (by omega)
      cases e1
      obtain ⟨y, hy⟩ : ∃ y, cl[j] = y := ⟨_, rfl⟩
      have hrd : rd cl (j : Int) = y := by simp [rd, hlt, hy]
      rw [hrd] at x1
      simp only [Int.toNat_natCast] at x1
      have hmem : y ∈ cl := by rw [← hy]; exact List.getElem_mem hlt
      have hS2 := hS.out
      rw [List.drop_eq_getElem_cons hlt, hy, scanU] at hS2
      have hcall := eng_Value.calls E B T p y wr (HE.out.below hB.out) (HL.out y hmem)
      have HY := K0 hmem
      have P0 : ((0 : Int) ≤ (j : Int)) = True := eq_true (by omega)
      have P1 : ((j : Int) < (cl.length : Int)) = True := eq_true (by omega)
      have P2 : (j < cl.length) = True := eq_true hlt
      have hd : decide ((j : Int) < (cl.length : Int)) = true := zqt (by omega)
      rcases E.val_or y with hv | hv | hv
      · rw [hv] at hcall hS2
        rw [if_pos (by decide)] at hS2
        have HCALL := K0 hcall
        have HS2 := K0 hS2
        clear hS hS2 hcall hv hy hrd hmem
        go_wp2_with fail
        refine HCALL.out.mono ?_
        rintro e' w1 ⟨rfl, hb1⟩
        have HB1 := K0 (hB.out.trans (hb1.mono hB.out.size))
        clear hb1 HCALL
        go_wp2
        try simp only [Exit.inBlock, Exit.then]
        refine bodyPost_ret (results_none rfl _ _ _) rfl ?_
        refine ⟨rfl, T, p, ?_, Moved.of_below HB1.out, rfl⟩
        rw [HK.out, HS2.out]
        exact HE.out.below HB1.out
      · rw [hv] at hcall hS2
        rw [if_neg (by decide), if_pos rfl] at hS2
        have HCALL := K0 hcall
        have HS2 := K0 hS2
        clear hS hS2 hcall hv hy hrd hmem
        by_cases ho : o = 0
        · subst ho
          have hS3 := HS2.out
          rw [if_pos rfl] at hS3
          have HS3 := K0 hS3
          clear hS3 HS2
          go_wp2_with fail
          refine HCALL.out.mono ?_
          rintro e' w1 ⟨rfl, hb1⟩
          have HB1 := K0 (hB.out.trans (hb1.mono hB.out.size))
          clear hb1 HCALL
          go_wp2
          go_roundg (cl.length - (j + 1))
          case measure => have := hg.out; omega
          case rel => exact ⟨y, j + 1, rfl, by simp, ⟨by have := hg.out; omega⟩, HB1, HS3, ⟨.inr HY.out⟩⟩
        · have hS3 := HS2.out
          rw [if_neg ho] at hS3
          have HS3 := K0 hS3
          have c1' : (o != 0) = true := by simpa using ho
          have c2' : (o == 0) = false := by simpa using ho
          clear hS3 HS2 ho
          go_wp2_with fail
          refine HCALL.out.mono ?_
          rintro e' w1 ⟨rfl, hb1⟩
          have HB1 := K0 (hB.out.trans (hb1.mono hB.out.size))
          clear hb1 HCALL
          go_wp2
          try simp only [Exit.inBlock, Exit.then]
          refine bodyPost_ret (results_none rfl _ _ _) rfl ?_
          refine ⟨rfl, T, p, ?_, Moved.of_below HB1.out, rfl⟩
          rw [HK.out, HS3.out]
          exact HE.out.below HB1.out
      · rw [hv] at hcall hS2
        rw [if_neg (by decide), if_neg (by decide)] at hS2
        have HCALL := K0 hcall
        have HS2 := K0 hS2
        clear hS hS2 hcall hv hy hrd hmem
        go_wp2_with fail
        refine HCALL.out.mono ?_
        rintro e' w1 ⟨rfl, hb1⟩
        have HB1 := K0 (hB.out.trans (hb1.mono hB.out.size))
        clear hb1 HCALL
        go_wp2
        go_roundg (cl.length - (j + 1))
        case measure => have := hg.out; omega
        case rel => exact ⟨o, j + 1, rfl, by simp, ⟨by have := hg.out; omega⟩, HB1, HS2, hO⟩
    · have hd : decide ((j : Int) < (cl.length : Int)) = false := zqu (by omega)
      have hS2 := hS.out
      rw [List.drop_of_length_le (by omega), scanU] at hS2
      have hk := HK.out
      rw [hS2] at hk
      simp only at hk
      have HB := K0 hB.out
      by_cases ho : o = 0
      · subst ho
        rw [if_pos rfl] at hk
        have hE := HE.out.below HB.out
        obtain ⟨h2, m2⟩ := hE.turn_br (n : Int)
        have H2 := K0 h2
        have M2 := K0 ((Moved.of_below HB.out).trans m2)
        have HK2 := K0 hk
        have c6 := hE.cells.2.2.2.2.2.2.1
        have f6 := hE.cells.2.2.2.2.2.2.2 6
        clear hk h2 m2 hE hS hS2 HK
        go_wp2
        try simp only [Exit.inBlock, Exit.then]
        refine bodyPost_ret (results_none rfl _ _ _) rfl ?_
        refine ⟨rfl, T, p, ?_, M2.out, rfl⟩
        rw [HK2.out]
        exact H2.out
      · rw [if_neg ho] at hk
        have HK2 := K0 hk
        have c1' : (o != 0) = true := by simpa using ho
        have c2' : (o == 0) = false := by simpa using ho
        have HCALL := K0 (eng_put.calls E B T p o (n : Int) wr (HE.out.below HB.out) (HL.out o (hO.out.resolve_left ho)) HLN.out)
        clear hk hS hS2 HK ho
        go_wp2_with fail
        refine HCALL.out.mono ?_
        rintro e' w1 ⟨rfl, T2, p2, h2, m2, hf2⟩
        have H2 := K0 h2
        have M2 := K0 ((Moved.of_below HB.out).trans m2)
        have HF2 := K0 hf2
        clear h2 m2 hf2 HCALL
        go_wp2
        go_end0
        refine ⟨rfl, T2, p2, ?_, M2.out, HF2.out⟩
        rw [HK2.out]
        exact H2.out
def Eng.looks : List Int → Eng → Option (Eng × Bool)
  | [], E => some (E, false)
  | n :: t, E => if E.br ≥ 0 then some (E, true) else if 0 ≤ n ∧ n.toNat < E.cls.length ∧ E.tr.length < 4398046511104 then Eng.looks t (E.look n.toNat) else none
def Eng.follow : Nat → Eng → Nat → Option Eng
  | 0, _, _ => none
  | k + 1, E, i => if i < E.tr.length then (Eng.looks (E.wt (wrap64 (-(rd E.tr (i : Int))))) E).bind fun r => if r.2 = true then some r.1 else Eng.follow k r.1 (i + 1) else some E
theorem Eng.look_cls (E : Eng) (n : Nat) : (E.look n).cls = E.cls ∧ (E.look n).wt = E.wt ∧ (E.look n).ws = E.ws ∧ (E.look n).n = E.n ∧ (E.look n).st = E.st := by
  unfold Eng.look
  split
  · exact ⟨rfl, rfl, rfl, rfl, rfl⟩
  · split
    · exact ⟨rfl, rfl, rfl, rfl, rfl⟩
    · exact ⟨rfl, rfl, rfl, rfl, rfl⟩
theorem zero_row (W : World) : (zeroValue 25).run Try.prog W = .ok (.slice none 0 0) W := by kernel_rfl
set_option maxRecDepth 100000 in
set_option maxHeartbeats 4000000 in
theorem eng_follow.calls (k : Nat) (E : Eng) (B : Nat) (T : Tag) (p : EngP) (i : Nat) (E2 : Eng) (w : World) (h : EngIn w B T E p) (hlit : E.Lits) (hf : Eng.follow k E i = some E2) :
    Calls Try.prog 53 #[.pointer (some ⟨B, 0, none⟩), .int .i64 (i : Int)] w fun e w' => e = .returned (.tuple #[]) ∧ EngPost B T p E2 w w' := by
  have HE := K0 h
  have HL := K0 hlit
  have HF := K0 hf
  clear h hlit hf
  go_enter Try.func53, Try.ntmps53
  go_wp2
  go_loopg [1, 5, 29] k (fun gg v1 _ _ wr => ∃ (i : Nat) (E1 : Eng) (T1 : Tag) (p1 : EngP), v1 = .int .i64 (i : Int) ∧ Aside0 (EngIn wr B T1 E1 p1) ∧ Aside0 (Moved T T1 w wr) ∧ Aside0 (p1.fw = p.fw) ∧ Aside0 (E1.Lits) ∧ Aside0 (Eng.follow gg E1 i = some E2) ∧ Aside0 (gg ≤ k))
  case atStart => exact ⟨i, E, T, p, rfl, HE, ⟨Moved.refl _ _⟩, ⟨rfl⟩, HL, HF, ⟨zqx _⟩⟩
  case round =>
    clear HE HL HF
    obtain ⟨i, E1, T1, p1, rfl, HE, HM, HP, HL, HF, HG⟩ := hrel
    obtain ⟨wo, rfl⟩ : ∃ wo : World, wo = wr := ⟨_, rfl⟩
    cases gk with
    | zero => exact absurd HF.out (by simp [Eng.follow])
    | succ k1 =>
      have hF := HF.out
      rw [Eng.follow] at hF
      clear HF
      have c3 := HE.out.cells.2.2.2.1
      obtain ⟨A3, n3, e3⟩ := Kd.R_slice HE.out.tr
      have hR3 := HE.out.tr
      rw [e3] at c3 hR3
      obtain ⟨_, _, hC3⟩ := Kd.R_reads' hR3
      have hbig := hC3.2.1
      by_cases hlt : i < E1.tr.length
      · rw [if_pos hlt] at hF
        obtain ⟨ad, e1, x1⟩ := Kd.at_int (Kd.C_below hC3 (below_drew (zqw _ wo))) (i : Int) (by omega) (by omega)
        cases e1
        simp only [Int.toNat_natCast] at x1
        obtain ⟨y, hy⟩ : ∃ y, rd E1.tr (i : Int) = y := ⟨_, rfl⟩
        rw [hy] at x1 hF
        obtain ⟨⟨E3, b3⟩, hlk, hF⟩ := Option.bind_eq_some_iff.mp hF
        dsimp only at hF
        have hD := HE.out.below (below_drew (zqw _ wo))
        have q1 := hD.wt.look Try.underlying3 Try.underlying67 (zero_row _) (wf_wrap y)
        obtain ⟨x, hx⟩ : ∃ x, wrap64 (-y) = x := ⟨_, rfl⟩
        have P6 : IntKind.i64.wrap (-y) = wrap64 (-y) := Go.IntWalk.i64_left _
        rw [hx] at q1 hlk P6
        have hg := HE.out.grp x
        obtain ⟨Ag, ng, eg⟩ := Kd.R_slice hg
        rw [eg] at q1
        have d2 := hD.cells.2.2.1
        have d3 : wo.drew.cell? ⟨B, 3, none⟩ = some (.slice (some ad) E1.tr.length n3) := by rw [hD.cells.2.2.2.1, e3]
        have P0 : ((0 : Int) ≤ (i : Int)) = True := eq_true (by omega)
        have P1 : ((i : Int) < (E1.tr.length : Int)) = True := eq_true (by omega)
        have P2 : (i < E1.tr.length) = True := eq_true hlt
        have hd : decide ((i : Int) < (E1.tr.length : Int)) = true := zqt (by omega)
        have HEG := K0 eg
        have HLK := K0 hlk
        have HF := K0 hF
        have HD := K0 hD
        obtain ⟨N3, hN3⟩ : ∃ N3, E1.tr.length = N3 := ⟨_, rfl⟩
        obtain ⟨ws, hws⟩ : ∃ ws, E1.wt x = ws := ⟨_, rfl⟩
        rw [hws] at HLK HEG q1
        have HWS := K0 hws
        have hwb : ws.length ≤ 9223372036854775807 := by rw [← hws]; have := hg; rw [eg] at this; exact (Kd.R_reads' this).2.2.2.1
        clear e3 hR3 hC3 hy hx hg eg hlk hF hD hN3 hws
        go_wp2
        go_still (by kernel_rfl)
        go_wp2
        have HB0 := K0 (Moved.of_below (T := T1) (below_drew (zqw wo.heap.size wo)))
        clear q1 d2 d3 c3 x1 P6
        go_loopg [5, 29] ws.length (fun gg _ v29 wr => ∃ (j : Nat) (E4 : Eng) (T4 : Tag) (p4 : EngP), v29 = .int .i64 (j : Int) ∧ Aside0 (j + gg = ws.length) ∧ Aside0 (EngIn wr B T4 E4 p4) ∧ Aside0 (Moved T T4 w wr) ∧ Aside0 (p4.fw = p.fw) ∧ Aside0 (E4.Lits ∧ E4.wt x = ws) ∧ Aside0 (Eng.looks (ws.drop j) E4 = some (E3, b3)))
        case atStart => exact ⟨0, E1, T1, p1, rfl, ⟨by simp⟩, HD, ⟨HM.out.trans HB0.out⟩, HP, ⟨HL.out, HWS.out⟩, HLK⟩
        case round =>
          clear HD HLK HWS HB0 HE HM HL
          obtain ⟨j, E4, T4, p4, rfl, hg, HE, HM, HP4, HL, HLK⟩ := hrel
          by_cases hjl : j < ws.length
          · have hgr := HE.out.grp x
            rw [HL.out.2, HP4.out, ← HP.out, HEG.out] at hgr
            obtain ⟨ad2, e1, x1⟩ := Kd.at_int (Kd.R_reads' hgr).2.2 (j : Int) (by omega) (by omega)
            cases e1
            obtain ⟨y, hy⟩ : ∃ y, ws[j] = y := ⟨_, rfl⟩
            have hrd : rd ws (j : Int) = y := by simp [rd, hjl, hy]
            rw [hrd] at x1
            simp only [Int.toNat_natCast] at x1
            have hlk := HLK.out
            rw [List.drop_eq_getElem_cons hjl, hy, Eng.looks] at hlk
            have c6 := HE.out.cells.2.2.2.2.2.2.1
            have P3 : ((0 : Int) ≤ (j : Int)) = True := eq_true (by omega)
            have P4 : ((j : Int) < (ws.length : Int)) = True := eq_true (by omega)
            have P5 : (j < ws.length) = True := eq_true hjl
            have hd2 : decide ((j : Int) < (ws.length : Int)) = true := zqt (by omega)
            by_cases hbr : E4.br ≥ 0
            · rw [if_pos hbr] at hlk
              simp only [Option.some.injEq, Prod.mk.injEq] at hlk
              obtain ⟨h1, h2⟩ := hlk
              have hF := HF.out
              rw [← h2, if_pos rfl, ← h1] at hF
              have HE2 := K0 (zqv hF)
              have hd3 : decide ((0 : Int) ≤ E4.br) = true := zqt hbr
              clear h1 h2 hF hbr hrd hy hgr HLK
              go_wp2
              try simp only [Exit.inBlock, Exit.then]
              refine bodyPost_ret (results_none rfl _ _ _) rfl ?_
              rw [← HE2.out]
              exact ⟨rfl, T4, p4, HE.out, HM.out, HP4.out⟩
            · rw [if_neg hbr] at hlk
              by_cases hcond : 0 ≤ y ∧ y.toNat < E4.cls.length ∧ E4.tr.length < 4398046511104
              · rw [if_pos hcond] at hlk
                obtain ⟨hy0, hy1, hy2⟩ := hcond
                obtain ⟨m, rfl⟩ := Int.eq_ofNat_of_zero_le hy0
                rw [Int.toNat_natCast] at hy1 hlk
                have hd3 : decide ((0 : Int) ≤ E4.br) = false := zqu hbr
                have HCALL := K0 (eng_look.calls E4 B T4 p4 m wr HE.out hy1 (HL.out.1 _ (List.getElem_mem hy1)) hy2)
                have HLK2 := K0 hlk
                clear hlk hbr hrd hy hgr HLK hy0 hy1 hy2
                go_wp2_with fail
                refine HCALL.out.mono ?_
                rintro e' w5 ⟨rfl, T5, p5, h5, m5, f5⟩
                have H5 := K0 h5
                have M5 := K0 (HM.out.trans m5)
                have F5 := K0 (f5.trans HP4.out)
                obtain ⟨l1, l2, _⟩ := E4.look_cls m
                have L5 : Aside0 ((E4.look m).Lits ∧ (E4.look m).wt x = ws) := ⟨by unfold Eng.Lits; rw [l1]; exact HL.out.1, by rw [l2]; exact HL.out.2⟩
                clear h5 m5 f5 l1 l2 HCALL
                go_wp2
                go_roundg (ws.length - (j + 1))
                case measure => have := hg.out; omega
                case rel => exact ⟨j + 1, E4.look m, T5, p5, by simp, ⟨by have := hg.out; omega⟩, H5, M5, F5, L5, HLK2⟩
              · rw [if_neg hcond] at hlk; cases hlk
          · have hd2 : decide ((j : Int) < (ws.length : Int)) = false := zqu (by omega)
            have P5 : (j < ws.length) = False := eq_false hjl
            have hlk := HLK.out
            rw [List.drop_of_length_le (by omega), Eng.looks] at hlk
            simp only [Option.some.injEq, Prod.mk.injEq] at hlk
            obtain ⟨h1, h2⟩ := hlk
            have hF := HF.out
            rw [← h2, if_neg (by decide), ← h1] at hF
            have HF2 := K0 hF
            clear h1 h2 hF HLK
            go_wp2
            go_roundg k1
            case measure => have := HG.out; omega
            case rel => exact ⟨i + 1, E4, T4, p4, by simp, HE, HM, HP4, ⟨HL.out.1⟩, HF2, ⟨by have := HG.out; omega⟩⟩
      · rw [if_neg hlt] at hF
        have HE2 := K0 (zqv hF)
        have hd : decide ((i : Int) < (E1.tr.length : Int)) = false := zqu (by omega)
        have P2 : (i < E1.tr.length) = False := eq_false hlt
        clear e3 hR3 hC3 hF
        go_wp2
        go_end0
        rw [← HE2.out]
        exact ⟨rfl, T1, p1, HE.out, HM.out, HP.out⟩
def Eng.scan : Nat → Nat → Eng → Option Eng
  | 0, _, E => some E
  | m + 1, n, E => if E.br < 0 then (if E.tr.length < 4398046511104 then Eng.scan m (n + 1) (E.look n) else none) else some E
def Eng.settle (k : Nat) (E : Eng) : Option Eng := (Eng.scan E.cls.length 0 E).bind fun E' => Eng.follow k E' E.tr.length
set_option maxRecDepth 100000 in
set_option maxHeartbeats 4000000 in
theorem eng_settle.calls (k : Nat) (E : Eng) (B : Nat) (T : Tag) (p : EngP) (E2 : Eng) (w : World) (h : EngIn w B T E p) (hlit : E.Lits) (hf : Eng.settle k E = some E2) :
    Calls Try.prog 36 #[.pointer (some ⟨B, 0, none⟩)] w fun e w' => e = .returned (.tuple #[]) ∧ EngPost B T p E2 w w' := by
  unfold Eng.settle at hf
  obtain ⟨E3, hsc, hf⟩ := Option.bind_eq_some_iff.mp hf
  have c3 := h.cells.2.2.2.1
  obtain ⟨A3, n3, e3⟩ := Kd.R_slice h.tr
  rw [e3] at c3
  obtain ⟨N, hN⟩ : ∃ N, E.cls.length = N := ⟨_, rfl⟩
  rw [hN] at hsc
  have HE := K0 h
  have HL := K0 hlit
  have HF := K0 hf
  have HS := K0 hsc
  have HN := K0 hN
  have hNb : N ≤ 9223372036854775807 := by obtain ⟨A1, k1, e1⟩ := Kd.R_slice h.cls; have := h.cls; rw [e1] at this; have := (Kd.R_reads' this).2.2.2.1; rw [← hN, ← h.len]; exact this
  obtain ⟨tl, htl⟩ : ∃ tl, E.tr.length = tl := ⟨_, rfl⟩
  rw [htl] at c3 HF
  clear h hlit hf hsc hN e3 htl
  go_enter Try.func36, Try.ntmps36
  go_wp2
  go_loopg [3] N (fun gg v3 wr => ∃ (n : Nat) (E1 : Eng) (T1 : Tag) (p1 : EngP), v3 = .int .i64 (n : Int) ∧ Aside0 (n + gg = N) ∧ Aside0 (EngIn wr B T1 E1 p1) ∧ Aside0 (Moved T T1 w wr) ∧ Aside0 (p1.fw = p.fw) ∧ Aside0 (E1.Lits) ∧ Aside0 (E1.cls.length = N) ∧ Aside0 (Eng.scan gg n E1 = some E3))
  case atStart => exact ⟨0, E, T, p, rfl, ⟨by simp⟩, HE, ⟨Moved.refl _ _⟩, ⟨rfl⟩, HL, HN, HS⟩
  case round =>
    clear HE HL HS HN c3
    obtain ⟨n, E1, T1, p1, rfl, hg, HE, HM, HP, HL, HN, HS⟩ := hrel
    have c1 := HE.out.cells.2.1
    have c6 := HE.out.cells.2.2.2.2.2.2.1
    obtain ⟨A1, k1, e1⟩ := Kd.R_slice HE.out.cls
    rw [e1, HE.out.len, HN.out] at c1
    have fin : ∀ {E4 : Eng} {T4 : Tag} {p4 : EngP} {W4 : World}, EngIn W4 B T4 E4 p4 → E4 = E3 → E4.Lits → Calls Try.prog 53 #[.pointer (some ⟨B, 0, none⟩), .int .i64 (tl : Int)] W4 fun e w' => e = .returned (.tuple #[]) ∧ EngPost B T4 p4 E2 W4 w' := fun h4 e4 l4 => eng_follow.calls k _ B _ _ tl E2 _ h4 l4 (by rw [e4]; exact HF.out)
    by_cases hlt : n < N
    · obtain ⟨m, hm⟩ : ∃ m, gk = m + 1 := ⟨gk - 1, by have := hg.out; omega⟩
      have hs := HS.out
      rw [hm, Eng.scan] at hs
      have P0 : ((n : Int) < (N : Int)) = True := eq_true (by omega)
      have P2 : (n < N) = True := eq_true hlt
      have hd : decide ((n : Int) < (N : Int)) = true := zqt (by omega)
      by_cases hb : E1.br < 0
      · rw [if_pos hb] at hs
        by_cases hl : E1.tr.length < 4398046511104
        · rw [if_pos hl] at hs
          have hnl : n < E1.cls.length := by rw [HN.out]; exact hlt
          have HCALL := K0 (eng_look.calls E1 B T1 p1 n wr HE.out hnl (HL.out _ (List.getElem_mem hnl)) hl)
          have HS2 := K0 hs
          have HM1 := K0 hm
          have hd2 : decide (E1.br < 0) = true := zqt hb
          clear hs hb hl hnl e1 fin hm HS
          go_wp2_with fail
          refine HCALL.out.mono ?_
          rintro e' w5 ⟨rfl, T5, p5, h5, m5, f5⟩
          have H5 := K0 h5
          have M5 := K0 (HM.out.trans m5)
          have F5 := K0 (f5.trans HP.out)
          obtain ⟨l1, l2, _⟩ := E1.look_cls n
          have L5 : Aside0 (E1.look n).Lits := ⟨by unfold Eng.Lits; rw [l1]; exact HL.out⟩
          have N5 : Aside0 ((E1.look n).cls.length = N) := ⟨by rw [l1]; exact HN.out⟩
          clear h5 m5 f5 l1 l2 HCALL
          go_wp2
          go_roundg m
          case measure => have := HM1.out; omega
          case rel => exact ⟨n + 1, E1.look n, T5, p5, by simp, ⟨by have := hg.out; have := HM1.out; omega⟩, H5, M5, F5, L5, N5, HS2⟩
        · rw [if_neg hl] at hs; cases hs
      · rw [if_neg hb] at hs
        have HCALL := K0 (fin HE.out (zqv hs) HL.out)
        have hd2 : decide (E1.br < 0) = false := zqu hb
        clear hs hb e1 fin hm HS
        go_wp2_with fail
        refine HCALL.out.mono ?_
        rintro e' w5 ⟨rfl, T5, p5, h5, m5, f5⟩
        have H5 := K0 h5
        have M5 := K0 (HM.out.trans m5)
        have F5 := K0 (f5.trans HP.out)
        clear h5 m5 f5 HCALL
        go_wp2
        go_end0
        exact ⟨rfl, T5, p5, H5.out, M5.out, F5.out⟩
    · have hs := HS.out
      have hm : gk = 0 := by have := hg.out; omega
      rw [hm, Eng.scan] at hs
      have HCALL := K0 (fin HE.out (zqv hs) HL.out)
      have hd : decide ((n : Int) < (N : Int)) = false := zqu (by omega)
      have P2 : (n < N) = False := eq_false hlt
      clear hs e1 fin hm HS
      go_wp2_with fail
      refine HCALL.out.mono ?_
      rintro e' w5 ⟨rfl, T5, p5, h5, m5, f5⟩
      have H5 := K0 h5
      have M5 := K0 (HM.out.trans m5)
      have F5 := K0 (f5.trans HP.out)
      clear h5 m5 f5 HCALL
      go_wp2
      go_end0
      exact ⟨rfl, T5, p5, H5.out, M5.out, F5.out⟩
def solve_opposites.l0 : Nat → List Int → List Int → Int → Int → Option (List Int)
  | 0, _, _, _, _ => none
  | k + 1, x3, x6, x7, x8 => if x8 < x7 then (if 0 ≤ x8 then (if x8 < (x6.length : Int) then (if x3.length < 17592186044416 then (solve_opposites.l0 k (x3 ++ [wrap64 (-(rd x6 x8))]) x6 x7 (wrap64 (x8 + 1))) else (none)) else (none)) else (none)) else (some x3)
def solve_opposites.f (k : Nat) (l0 : List Int) : Option (List Int) := solve_opposites.l0 k ([] : List Int) l0 (l0.length : Int) 0
set_option maxHeartbeats 8000000 in
set_option maxRecDepth 100000 in
theorem solve_opposites.calls (k : Nat) (A0 : Option Addr) (c0 : Nat) (l0 : List Int) (r : List Int) (w : World) (hr0 : Kd.C (Kd.int .i64) w A0 l0.length l0) (hc0 : l0.length ≤ c0) (h : solve_opposites.f k l0 = some r) :
    Calls Try.prog 45 #[.slice A0 l0.length c0] w fun e w' => ∃ v0_ : Value, e = .returned (v0_) ∧ Kd.R (Kd.int .i64) 3 w' w.heap.size (fun _ => True) v0_ r ∧ Below w.heap.size w w' := by
  have HR0 := K0 hr0
  have HC0 := K0 hc0
  clear hr0 hc0
  have HB := K0 (zqw w.heap.size w)
  have H : (solve_opposites.l0 k ([] : List Int) l0 (l0.length : Int) 0) = some r := h
  clear h
  have H' := K0 H
  clear H
  go_enter Try.func45, Try.ntmps45
  go_wp2
  go_loopg [3, 8] k (fun kq v3 v8 w' => ∃ (x3_1 : List Int) (x8_1 : Int), v8 = .int .i64 x8_1 ∧ Aside0 (solve_opposites.l0 kq x3_1 l0 (l0.length : Int) x8_1 = some r) ∧ Aside0 (kq ≤ k) ∧ Aside0 (Kd.R (Kd.int .i64) 3 w' w.heap.size (fun _ => True) v3 x3_1) ∧ Aside0 (Below w.heap.size w w'))
  case atStart => exact ⟨(([] : List Int)), (0), (by first | rfl | (simp; done) | (simp [*]; done)), H', ⟨zqx _⟩, ⟨by first | exact Kd.R_nil _ _ _ _ _ | exact Kd.N_nil _ _ _ _ _ | exact Kd.V_nil _ _ _ _ _ | exact Kd.Q_nil _ _ _ _ _ | exact Kd.S_nil _ _ _ _ _⟩, ⟨by repeat (first | (with_reducible first | exact HB.out | apply zqb | apply zqa | apply zqc) | exact HB.out)⟩⟩
  case round =>
    clear H'
    obtain ⟨x3_1, x8_1, rfl, HA, HK1, HO_3, HB⟩ := hrel
    cases gk with
    | zero => exact absurd HA.out (by simp [solve_opposites.l0])
    | succ k1 =>
      have H := HA.out
      clear HA
      simp only [solve_opposites.l0] at H
      by_cases c2 : x8_1 < (l0.length : Int)
      · rw [if_pos c2] at H
        have c2b0 : decide (x8_1 < (l0.length : Int)) = true := zqt c2
        clear c2
        by_cases c3 : 0 ≤ x8_1
        · rw [if_pos c3] at H
          have c3b0 : decide (0 ≤ x8_1) = true := zqt c3
          clear c3
          by_cases c4 : x8_1 < (l0.length : Int)
          · rw [if_pos c4] at H
            have c4b0 : decide (x8_1 < (l0.length : Int)) = true := zqt c4
            clear c4
            by_cases c5 : x3_1.length < 17592186044416
            · rw [if_pos c5] at H
              have LMc5 := K0 c5
              clear c5
              obtain ⟨y134, hy134⟩ : ∃ y_ : List Int, y_ = (x3_1 ++ [wrap64 (-(rd l0 x8_1))]) := ⟨_, rfl⟩
              replace H : (solve_opposites.l0 k1 y134 l0 (l0.length : Int) (wrap64 (x8_1 + 1))) = some r := by first | (rw [hy134]; with_reducible exact H) | (have H2_ := (Option.bind_some _ _).symm.trans H; rw [hy134]; with_reducible exact H2_) | (have H2_ := (Option.bind_some _ _).symm.trans H; with_reducible exact H2_) | with_reducible exact H | (rw [hy134]; exact H) | exact H
              have Ny134 := K0 hy134
              clear hy134
              as_aux_lemma =>
                have H' := K0 H
                clear H
                have p133 : 0 ≤ (x8_1 : Int) := zqe (by first | (with_reducible assumption) | assumption)
                have q133 : x8_1 < (l0.length : Int) := zqe (by first | (with_reducible assumption) | assumption)
                obtain ⟨ad133, e133, hx133_0⟩ := Kd.at_int HR0.out x8_1 p133 q133
                cases e133
                replace hx133_0 := (HB.out.cell (World.block_lt_of_cell? w _ hx133_0)).trans hx133_0
                replace p133 := eq_true p133
                replace q133 := eq_true q133
                go_wp2_with (first | ((with_reducible refine gate_builtin (b := .append) (xs := #[.tmp 12, .tmp 15]) rfl ?_); at_builtin; refine Kd.R_append (Kd.int .i64) (w0 := w) w.heap.size rfl (.tmp 12) (.tmp 15) 25 3 (.int .i64 0) 8 rfl Try.underlying25 info3 rfl (by decide) (by omega) u3 x3_1 (wrap64 (-(rd l0 x8_1))) [.int .i64 (wrap64 (-(rd l0 x8_1)))] (fun _ => True) (fun _ => False) rfl rfl ?aP (fun _ hk => hk.elim) ?aF ?aO ?aB ?aS ?aL ?_; (case aP => exact rfl); (case aB => exact (by repeat (first | (with_reducible first | exact HB.out | apply zqb | apply zqa | apply zqc) | exact HB.out))); (case aF => exact (fun _ _ => trivial)); (case aO => exact (by (with_reducible repeat (first | apply Kd.R_alloc | apply Kd.R_drewN | apply Kd.R_drew)); exact HO_3.out)); (case aS => exact (zqp (by repeat (first | (with_reducible first | exact HB.out | apply zqb | apply zqa | apply zqc) | exact HB.out)))); (case aL => have := LMc5.out; omega); intro v135 w6 ho hb hg hat; rw [← Ny134.out] at ho; have n0_ := K0 (hb); have n1_ := K0 (ho); clear HB; clear HO_3; have HB := n0_; have HO136 := n1_; clear n0_ n1_; clear ho hb hg hat))
                go_roundg k1
                case measure => have := HK1.out; omega
                case rel => exact ⟨(y134), (wrap64 (x8_1 + 1)), (by first | rfl | (simp; done) | (simp [*]; done)), H', ⟨by have := HK1.out; omega⟩, ⟨by (with_reducible repeat (first | apply Kd.R_alloc | apply Kd.R_drewN | apply Kd.R_drew)); exact HO136.out⟩, ⟨by repeat (first | (with_reducible first | exact HB.out | apply zqb | apply zqa | apply zqc) | exact HB.out)⟩⟩
            · rw [if_neg c5] at H
              exact absurd H (by simp)
          · rw [if_neg c4] at H
            exact absurd H (by simp)
        · rw [if_neg c3] at H
          exact absurd H (by simp)
      · rw [if_neg c2] at H
        have c2b0 : decide (x8_1 < (l0.length : Int)) = false := zqu c2
        clear c2
        as_aux_lemma =>
          obtain rfl := zqv H
          go_wp2
          go_ret
          exact ⟨_, by first | rfl | (simp [errW_none, errW_some] <;> rfl) | (simp [*, errW_none, errW_some] <;> rfl), by (with_reducible repeat (first | apply Kd.R_alloc | apply Kd.R_drewN | apply Kd.R_drew)); exact HO_3.out, by repeat (first | (with_reducible first | exact HB.out | apply zqb | apply zqa | apply zqc) | exact HB.out)⟩
def slices_Index_int_int.l0 : Nat → List Int → Int → Int → Int → Option (Int)
  | 0, _, _, _, _ => none
  | k + 1, x0, x1, x7, x8 => if x8 < x7 then (if 0 ≤ x8 then (if x8 < (x0.length : Int) then (if x1 = (rd x0 x8) then (some x8) else (slices_Index_int_int.l0 k x0 x1 x7 (wrap64 (x8 + 1)))) else (none)) else (none)) else (some (-1))
def slices_Index_int_int.f (k : Nat) (l0 : List Int) (a1 : Int) : Option (Int) := slices_Index_int_int.l0 k l0 a1 (l0.length : Int) 0
set_option maxHeartbeats 8000000 in
set_option maxRecDepth 100000 in
theorem slices_Index_int_int.calls (k : Nat) (A0 : Option Addr) (c0 : Nat) (l0 : List Int) (a1 : Int) (r : Int) (w : World) (hr0 : Kd.C (Kd.int .i64) w A0 l0.length l0) (hc0 : l0.length ≤ c0) (h : slices_Index_int_int.f k l0 a1 = some r) :
    Calls Try.prog 79 #[.slice A0 l0.length c0, .int .i64 a1] w fun e w' => e = .returned (.int .i64 r) ∧ Drawn0 w w' := by
  have HR0 := K0 hr0
  have HC0 := K0 hc0
  clear hr0 hc0
  have H : (slices_Index_int_int.l0 k l0 a1 (l0.length : Int) 0) = some r := h
  clear h
  have H' := K0 H
  clear H
  go_enter Try.func79, Try.ntmps79
  go_wp2
  go_loopg [8] k (fun kq v8 w' => ∃ (x8_1 : Int), v8 = .int .i64 x8_1 ∧ Aside0 (slices_Index_int_int.l0 kq l0 a1 (l0.length : Int) x8_1 = some r) ∧ Aside0 (kq ≤ k) ∧ Drawn0 w w')
  case atStart => exact ⟨(0), (by first | rfl | (simp; done) | (simp [*]; done)), H', ⟨zqx _⟩, by repeat (first | exact Drawn0.refl _ | apply Drawn0.step)⟩
  case round =>
    clear H'
    try clear p2
    obtain ⟨x8_1, rfl, HA, HK1, ⟨m1, rfl⟩⟩ := hrel
    cases gk with
    | zero => exact absurd HA.out (by simp [slices_Index_int_int.l0])
    | succ k1 =>
      have H := HA.out
      clear HA
      simp only [slices_Index_int_int.l0] at H
      by_cases c3 : x8_1 < (l0.length : Int)
      · rw [if_pos c3] at H
        have c3b0 : decide (x8_1 < (l0.length : Int)) = true := zqt c3
        clear c3
        by_cases c4 : 0 ≤ x8_1
        · rw [if_pos c4] at H
          have c4b0 : decide (0 ≤ x8_1) = true := zqt c4
          clear c4
          by_cases c5 : x8_1 < (l0.length : Int)
          · rw [if_pos c5] at H
            have c5b0 : decide (x8_1 < (l0.length : Int)) = true := zqt c5
            clear c5
            by_cases c6 : a1 = (rd l0 x8_1)
            · rw [if_pos c6] at H
              have c6b0 : (a1 == (rd l0 x8_1)) = true := beq_iff_eq.mpr c6
              have c6b1 : (a1 != (rd l0 x8_1)) = false := bne_eq_false_iff_eq.mpr c6
              clear c6
              as_aux_lemma =>
                obtain rfl := zqv H
                have p137 : 0 ≤ (x8_1 : Int) := zqe (by first | (with_reducible assumption) | assumption)
                have q137 : x8_1 < (l0.length : Int) := zqe (by first | (with_reducible assumption) | assumption)
                obtain ⟨ad137, e137, hx137_0⟩ := Kd.at_int HR0.out x8_1 p137 q137
                cases e137
                replace p137 := eq_true p137
                replace q137 := eq_true q137
                go_wp2
                go_ret
                exact ⟨by first | rfl | (simp; done) | (simp [*]; done), by repeat (first | exact Drawn0.refl _ | apply Drawn0.step)⟩
            · rw [if_neg c6] at H
              have c6b0 : (a1 == (rd l0 x8_1)) = false := beq_eq_false_iff_ne.mpr c6
              have c6b1 : (a1 != (rd l0 x8_1)) = true := bne_iff_ne.mpr c6
              as_aux_lemma =>
                have H' := K0 H
                clear H
                have p137 : 0 ≤ (x8_1 : Int) := zqe (by first | (with_reducible assumption) | assumption)
                have q137 : x8_1 < (l0.length : Int) := zqe (by first | (with_reducible assumption) | assumption)
                obtain ⟨ad137, e137, hx137_0⟩ := Kd.at_int HR0.out x8_1 p137 q137
                cases e137
                replace p137 := eq_true p137
                replace q137 := eq_true q137
                go_wp2
                go_roundg k1
                case measure => have := HK1.out; omega
                case rel => exact ⟨(wrap64 (x8_1 + 1)), (by first | rfl | (simp; done) | (simp [*]; done)), H', ⟨by have := HK1.out; omega⟩, by repeat (first | exact Drawn0.refl _ | apply Drawn0.step)⟩
          · rw [if_neg c5] at H
            exact absurd H (by simp)
        · rw [if_neg c4] at H
          exact absurd H (by simp)
      · rw [if_neg c3] at H
        have c3b0 : decide (x8_1 < (l0.length : Int)) = false := zqu c3
        clear c3
        as_aux_lemma =>
          obtain rfl := zqv H
          go_wp2
          go_ret
          exact ⟨by first | rfl | (simp; done) | (simp [*]; done), by repeat (first | exact Drawn0.refl _ | apply Drawn0.step)⟩
def slices_Contains_int_int.f (k : Nat) (l0 : List Int) (a1 : Int) : Option (Bool) := (slices_Index_int_int.f k l0 a1).bind fun t138 => (some (decide (t138 ≥ 0)))
set_option maxHeartbeats 8000000 in
set_option maxRecDepth 100000 in
theorem slices_Contains_int_int.calls (k : Nat) (A0 : Option Addr) (c0 : Nat) (l0 : List Int) (a1 : Int) (r : Bool) (w : World) (hr0 : Kd.C (Kd.int .i64) w A0 l0.length l0) (hc0 : l0.length ≤ c0) (h : slices_Contains_int_int.f k l0 a1 = some r) :
    Calls Try.prog 59 #[.slice A0 l0.length c0, .int .i64 a1] w fun e w' => e = .returned (.bool r) ∧ Drawn0 w w' := by
  have HR0 := K0 hr0
  have HC0 := K0 hc0
  clear hr0 hc0
  have H : ((slices_Index_int_int.f k l0 a1).bind fun t138 => (some (decide (t138 ≥ 0)))) = some r := h
  clear h
  replace H := Option.bind_eq_some_iff.mp H
  obtain ⟨t138, A30, H⟩ := H
  replace H : (some (decide (t138 ≥ 0))) = some r := H
  have A3 := K0 A30
  clear A30
  as_aux_lemma =>
    obtain rfl := zqv H
    go_enter Try.func59, Try.ntmps59
    go_wp2_with (first | ((with_reducible refine gate_callee (f := 79) rfl ?_); refine goesL_ (some 7) rfl rfl Try.func79 (by kernel_rfl) rfl #[.slice A0 l0.length c0, .int .i64 a1] rfl (by (try simp only [List.map_toArray, List.map_cons, List.map_nil]); first | done | rfl | (simp only [zqq, zqr]; rfl)) ?_; (with_reducible refine (slices_Index_int_int.calls k _ _ l0 a1 t138 _ ?side1 ?side2 A3.out).mono ?_); (case side1 => repeat (first | exact HR0.out | (with_reducible refine Kd.C_alloc ?_ _) | (with_reducible refine Kd.C_drewN ?_ _) | (with_reducible refine Kd.C_drew ?_))); (case side2 => exact HC0.out); rintro e w' ⟨rfl, ⟨nd, rfl⟩⟩; refine ⟨_, rfl, ?_⟩))
    go_ret
    exact ⟨by first | rfl | (simp; done) | (simp [*]; done), by repeat (first | exact Drawn0.refl _ | apply Drawn0.step)⟩
set_option maxRecDepth 100000 in
set_option maxHeartbeats 4000000 in
theorem sol_put.full {w0 w : World} {S B : Nat} {T : Tag} {U : Col} {Z : Sol} {p : EngP} {q : SolP} (h0 : SolIn w0 w S B T U Z p q) (v : Value) (hl : 4096 ≤ Z.log.length) :
    Calls Try.prog 60 #[.pointer (some ⟨S, 0, none⟩), v] w fun e w' => e = .returned (.int .i64 2) ∧ w' = w := by
  obtain ⟨AL, kL, eL⟩ := Kd.N_slice h0.log
  have c4 := h0.cells.2.2.2.2.1
  rw [eL] at c4
  have d : decide ((4096 : Int) ≤ (Z.log.length : Int)) = true := zqt (by omega)
  clear h0 eL
  have d2 : (4096 ≤ Z.log.length) = True := eq_true hl
  go_enter Try.func60, Try.ntmps60
  go_wp2
  go_ret
  exact ⟨rfl, rfl⟩
set_option maxRecDepth 100000 in
set_option maxHeartbeats 4000000 in
theorem sol_put.calls {w0 w : World} {S B : Nat} {T : Tag} {U : Col} {Z : Sol} {p : EngP} {q : SolP} (h0 : SolIn w0 w S B T U Z p q) (A : Option Addr) (c : Nat) (cl : List Int) (hc : cl.length ≤ c) (hF : Kd.F (Kd.int .i64) w (fun k => T k = (0, 0) ∧ U k = 4) A cl.length cl) (hl : Z.log.length < 4096) :
    Calls Try.prog 60 #[.pointer (some ⟨S, 0, none⟩), .slice A cl.length c] w fun e w' => e = .returned (.int .i64 0) ∧ PutPost w0 S B T U { Z with log := Z.log ++ [⟨false, cl⟩] } w w' := by
  obtain ⟨AL, kL, eL⟩ := Kd.N_slice h0.log
  have c4 := h0.cells.2.2.2.2.1
  have f4 := h0.cells.2.2.2.2.2.2.2 4
  have hN := h0.log
  rw [eL] at c4 hN
  have d : decide ((4096 : Int) ≤ (Z.log.length : Int)) = false := zqu (by omega)
  have d2 : (4096 ≤ Z.log.length) = False := eq_false (by omega)
  have HS := K0 h0
  have HN := K0 hN
  have HE := K0 eL
  have HL := K0 hl
  have hu64 := Try.underlying64
  have HFK := K0 (k64_mkF w (fun k => T k = (0, 0) ∧ U k = 4) ⟨false, cl⟩ (A1 := A) (c1 := c) hc hF)
  clear h0 eL hN hl hF hc
  go_enter Try.func60, Try.ntmps60
  have hS3 : some S ≠ (Value.slice AL Z.log.length kL).ownBlock := fun e => by have := HS.out.uL S (by rw [HE.out]; exact e.symm); rw [HS.out.uS] at this; cases this
  have hfar : ∀ k, T k = (0, 0) ∧ U k = 4 → some k ≠ (Value.slice AL Z.log.length kL).ownBlock := fun k hk e => by
    have hu := HS.out.uL k (by rw [HE.out]; exact e.symm)
    have h4 := hk.2
    rw [hu] at h4; cases h4
  have HFAR := K0 hfar
  have HS3 := K0 hS3
  clear hfar hS3
  go_wp2_with (at_builtin; refine Kd.N_append k64 (w0 := w) (W := w) 0 rfl (.tmp 15) (.tmp 18) 31 64 (.agg #[.bool false, .slice none 0 0]) 32 rfl Try.underlying31 (by kernel_rfl) rfl (by decide) (by decide) (.slice AL Z.log.length kL) Z.log ⟨false, cl⟩ [.bool false, .slice A cl.length c] (fun k => (T k = (0, 0) ∧ U k = 2 ∨ T k = (0, 0) ∧ U k = 4) ∨ w.heap.size ≤ k) (fun k => T k = (0, 0) ∧ U k = 4) rfl rfl HFK.out (fun k hk => ⟨.inl (.inr hk), HFAR.out k hk⟩) (fun k hk => .inr hk) (Kd.N_mono HN.out (fun _ hk => .inl hk)) (zqw _ _) (Nat.zero_le _) (by have := HL.out; omega) ?_; intro v1 w1 r1 hb1 hg1 hat1; obtain ⟨A1, k1, e1⟩ := Kd.N_slice r1; subst e1; have H1 := K0 (HS.out.turn_log r1 (by rw [HE.out]; exact hg1) (by rw [HE.out]; exact hat1)); have c41 := (zql (blk_grown HS.out.blk hg1 HS3.out) 4); have f41 := (zqm (blk_grown HS.out.blk hg1 HS3.out) 4); replace c41 := c41.trans (show _ = some q.vL from rfl); rw [HE.out] at c41; clear r1 hb1 hg1 hat1)
  go_ret
  have h := H1.out
  simp only [List.length_append, List.length_singleton] at h
  exact ⟨rfl, _, _, _, _, h⟩
def Sol.core (Z : Sol) (bl : List Int) : List Int := Z.asm.filter fun x => decide (x ∈ bl)
def Sol.blame2 (bl : List Int) (l : Int) : List Int := if l ≠ 0 then bl ++ [l] else bl
def Sol.ends (Z : Sol) (k : Nat) (bl : List Int) (l : Int) (cl : List Int) : Prop :=
  bl.length < 2199023255552 ∧ Z.asm.length < 2199023255552 ∧ (∀ x ∈ Z.asm, slices_Contains_int_int.f k (Sol.blame2 bl l) x = some (decide (x ∈ Sol.blame2 bl l))) ∧
    ∃ cl0, solve_opposites.f k (Z.core (Sol.blame2 bl l)) = some cl0 ∧ cl0.length ≤ 64 ∧ cl = cl0
def okU (w0 : World) (U : Col) (k : Nat) : Prop := w0.heap.size ≤ k ∧ U k ≠ 5
def EndPost (w0 w : World) (U : Col) (Z : Sol) (cl core : List Int) (e : Ending) (w' : World) : Prop :=
  Below w0.heap.size w0 w' ∧ (∀ g, U g = 5 → w'.heap[g]? = w.heap[g]?) ∧ (4096 ≤ Z.log.length → e = .returned (.tuple #[.agg #[.bool false, .slice none 0 0, .slice none 0 0, .int .i64 0], .slice none 0 0, .int .i64 2])) ∧
    (Z.log.length < 4096 → ∃ vL vN, e = .returned (.tuple #[.agg #[.bool false, .slice none 0 0, vL, .int .i64 Z.steps], vN, .int .i64 0]) ∧ Kd.N k64 64 w' 0 (fun k => okU w0 U k ∧ some k ≠ vN.ownBlock) vL (Z.log ++ [⟨false, cl⟩]) ∧ Kd.R (Kd.int .i64) 3 w' 0 (okU w0 U) vN core)
set_option maxRecDepth 100000 in
set_option maxHeartbeats 8000000 in
theorem sol_end.calls (k : Nat) {w0 w : World} {S B : Nat} {T : Tag} {U0 : Col} {Z : Sol} {p : EngP} {q0 : SolP} (h0 : SolIn w0 w S B T U0 Z p q0) (A : Option Addr) (c : Nat) (bl : List Int) (l : Int) (cl : List Int)
    (hr : Kd.R (Kd.int .i64) 3 w w0.heap.size (fun k => T k = (0, 0) ∧ U0 k = 0) (.slice A bl.length c) bl) (hf : Z.ends k bl l cl) :
    Calls Try.prog 43 #[.pointer (some ⟨S, 0, none⟩), .slice A bl.length c, .int .i64 l] w fun e w' => EndPost w0 w U0 Z cl (Z.core (Sol.blame2 bl l)) e w' := by
  obtain ⟨hbl, hasm, hcon, cl0, hop, hcl1, hcl2⟩ := hf
  subst hcl2
  have hu33 := Try.underlying33
  obtain ⟨W1, hW1⟩ : ∃ W1, w.alloc (.cells #[.bool false, .slice none 0 0, .slice none 0 0, .int .i64 0] 33) = W1 := ⟨_, rfl⟩
  have hb1 : Below w.heap.size w W1 := by rw [← hW1]; exact zqb (zqw _ _) _
  have hx1 := blk_new w (.cells #[.bool false, .slice none 0 0, .slice none 0 0, .int .i64 0] 33)
  rw [hW1] at hx1
  have HX1 := K0 hx1
  have hT := h0.e.fresh _ (zqx _)
  have hU := h0.fresh _ (zqx _)
  have HFR0 := K0 (show ∀ k, w.heap.size ≤ k → T k = (0, 0) ∧ U0 k = 0 from fun k hk => ⟨h0.e.fresh k hk, h0.fresh k hk⟩)
  have HW0 := K0 h0.old.size
  obtain ⟨g6, hg6⟩ : ∃ g, w.heap.size = g := ⟨_, rfl⟩
  have HG0 := K0 (show w.heap.size ≤ g6 by rw [hg6]; exact zqx _)
  have hs1 : W1.heap.size = g6 + 1 := by rw [← hW1, ← hg6]; simp
  have HS1Z := K0 hs1
  have hr1 : Kd.R (Kd.int .i64) 3 W1 w0.heap.size (fun k => (T k = (0, 0) ∧ U0 k = 0) ∧ k ≠ g6) (.slice A bl.length c) bl := Kd.R_below (Kd.R_mono (Kd.R_bound hr) (fun k hk => ⟨hk.1, by have := hk.2.2.1; omega⟩)) hb1
  have H5 := K0 (fun g (hg : U0 g = 5) => h0.five g hg)
  obtain ⟨U, q, HS1, HTU, HUN, HF5⟩ : ∃ (U : Col) (q : SolP), Aside0 (SolIn w0 W1 S B T U Z p q) ∧ Aside0 (T g6 = (0, 0) ∧ U g6 = 5) ∧ Aside0 (∀ k, k ≠ g6 → U k = U0 k) ∧ Aside0 (∀ g, U0 g = 5 → g ≠ g6 ∧ U g = 5 ∧ q.five g = w.heap[g]?) := by
    rw [hg6] at hT hU
    exact ⟨_, _, ⟨(h0.below hb1).own5 g6 (by have := HW0.out; omega) (by omega) hU hT⟩, ⟨hT, if_pos rfl⟩, ⟨fun k hk => if_neg hk⟩, ⟨fun g hg => (by
      have hne : g ≠ g6 := fun e => by rw [e, hU] at hg; cases hg
      exact ⟨hne, (if_neg hne).trans hg, (if_neg hne).trans (H5.out g hg).2.symm⟩)⟩⟩
  have HR1 := K0 (show Kd.R (Kd.int .i64) 3 W1 w0.heap.size (fun k => T k = (0, 0) ∧ U k = 0 ∧ k ≠ g6) (.slice A bl.length c) bl from Kd.R_mono hr1 (fun k hk => ⟨hk.1.1, (HUN.out k hk.2).trans hk.1.2, hk.2⟩))
  have HG6 := K0 (show ∀ k, g6 + 1 ≤ k → T k = (0, 0) ∧ U k = 0 ∧ k ≠ g6 from fun k hk => ⟨(HFR0.out k (by omega)).1, (HUN.out k (by omega)).trans (HFR0.out k (by omega)).2, by omega⟩)
  rw [hg6] at HX1
  have H5U := K0 (show ∀ g, U0 g = 5 → U g = 5 from fun g hg => (HF5.out g hg).2.1)
  have HQ5 := K0 (show ∀ W : World, (∀ g, U g = 5 → g ≠ g6 → W.heap[g]? = q.five g) → ∀ g, U0 g = 5 → W.heap[g]? = w.heap[g]? from fun W hW g hg => (hW g (HF5.out g hg).2.1 (HF5.out g hg).1).trans (HF5.out g hg).2.2)
  clear HUN hr1 HFR0 hr h0 hT hU H5 HF5; have HBL := K0 hbl; have HASM := K0 hasm; have HCON := K0 hcon; have HOP := K0 hop; have HCL := K0 hcl1; clear hb1 hx1 hbl hasm hcon hop hcl1 hs1
  go_enter Try.func43, Try.ntmps43
  go_upto_region 1 with fail
  clear hW1 hg6
  by_cases hl : l = 0
  case pos =>
    have q1 : (l != 0) = false := by rw [hl]; rfl
    have HB2 := K0 (show Sol.blame2 bl l = bl by unfold Sol.blame2; rw [if_neg (by simpa using hl)])
    clear hl
    go_upto_region 3 with fail
    obtain ⟨W2, hW2⟩ : ∃ W2, W1 = W2 := ⟨_, rfl⟩
    obtain ⟨b2, hb2⟩ : ∃ b2, bl = b2 := ⟨_, rfl⟩
    have HS2 := HS1
    have HX2 := HX1
    have HR2 := HR1
    obtain ⟨A2, hA2⟩ : ∃ A2, A = A2 := ⟨_, rfl⟩
    obtain ⟨c2, hc2⟩ : ∃ c2, c = c2 := ⟨_, rfl⟩
    have HLW := K0 (show g6 + 1 ≤ W1.heap.size by rw [HS1Z.out]; exact zqx _)
    replace HB2 := K0 (HB2.out.trans hb2)
    rw [hW2] at HS2 HX2 HLW ⊢
    rw [hW2, hA2, hb2, hc2] at HR2
    rw [hA2, hb2, hc2]
    clear hW2 hA2 hc2 hb2 HS1 HX1 HR1
    rw [HB2.out] at HCON HOP
    have c3 := HS2.out.cells.2.2.2.1
    have hbig := (Kd.F_now HS2.out.asm).2.1
    obtain ⟨aA, haA⟩ : ∃ a, q.aA = a := ⟨_, rfl⟩
    obtain ⟨cA, hcA⟩ : ∃ a, q.cA = a := ⟨_, rfl⟩
    obtain ⟨l1, hl1⟩ : ∃ a, Z.asm = a := ⟨_, rfl⟩
    rw [haA, hcA, hl1] at c3
    rw [hl1] at hbig HCON HASM
    have HASMR := K0 (show ∀ W, SolIn w0 W S B T U Z p q → Kd.C (Kd.int .i64) W aA l1.length l1 from fun W h => by have := Kd.F_now h.asm; rw [haA, hl1] at this; exact this)
    have HCORE := K0 (show Z.core b2 = l1.filter fun x => decide (x ∈ b2) by unfold Sol.core; rw [hl1])
    clear haA hcA hl1
    go_wp2
    go_loopg [9, 25] l1.length (fun gg v9 v25 wr => ∃ (j : Nat), v25 = .int .i64 (j : Int) ∧ Aside0 (j + gg = l1.length) ∧ Aside0 (SolIn w0 wr S B T U Z p q) ∧ Aside0 (g6 + 1 ≤ wr.heap.size) ∧ Aside0 (wr.heap[g6]? = some (.cells #[.bool false, .slice none 0 0, .slice none 0 0, .int .i64 0] 33 (0, 0))) ∧ Aside0 (Kd.R (Kd.int .i64) 3 wr w0.heap.size (fun k => (T k = (0, 0) ∧ U k = 0 ∧ k ≠ g6) ∧ some k ≠ v9.ownBlock) (.slice A2 b2.length c2) b2) ∧ Aside0 (Kd.R (Kd.int .i64) 3 wr w0.heap.size (fun k => T k = (0, 0) ∧ U k = 0 ∧ k ≠ g6) v9 ((l1.take j).filter fun x => decide (x ∈ b2))))
    case atStart => exact ⟨0, rfl, ⟨by simp⟩, HS2, HLW, HX2, ⟨Kd.R_mono HR2.out (fun k hk => ⟨hk, by simp [Value.ownBlock]⟩)⟩, ⟨Kd.R_nil _ _ _ _ _⟩⟩
    case round =>
      clear HS2 HX2 HR2 HLW c3
      obtain ⟨j, rfl, hg, HSr, HLr, HXr, HRr, HAr⟩ := hrel
      by_cases hlt : j < l1.length
      case pos =>
        obtain ⟨ad2, e2, x2⟩ := Kd.at_int (HASMR.out _ HSr.out) (j : Int) (by omega) (by omega)
        cases e2
        obtain ⟨y, hy⟩ : ∃ y, l1[j] = y := ⟨_, rfl⟩
        have hrd : rd l1 (j : Int) = y := by simp [rd, hlt, hy]
        rw [hrd] at x2
        simp only [Int.toNat_natCast] at x2
        have Q0 : ((0 : Int) ≤ (j : Int)) = True := eq_true (by omega)
        have Q1 : ((j : Int) < (l1.length : Int)) = True := eq_true (by omega)
        have Q2 : (j < l1.length) = True := eq_true hlt
        have hd2 : decide ((j : Int) < (l1.length : Int)) = true := zqt (by omega)
        have HTK := K0 (show (l1.take (j + 1)).filter (fun x => decide (x ∈ b2)) = (l1.take j).filter (fun x => decide (x ∈ b2)) ++ [y].filter (fun x => decide (x ∈ b2)) by rw [List.take_add_one, List.getElem?_eq_getElem hlt, hy, List.filter_append]; rfl)
        have HLN2 := K0 (show (((l1.take j).filter (fun x => decide (x ∈ b2))).length + 1) * 8 ≤ 140737488355328 by
          have := List.length_filter_le (fun x => decide (x ∈ b2)) (l1.take j)
          have h2 := HASM.out
          rw [zqr] at this
          omega)
        have HCO := K0 (slices_Contains_int_int.calls k A2 c2 b2 y (decide (y ∈ b2)) wr (Kd.R_reads' HRr.out).2.2 (Kd.R_reads' HRr.out).2.1 (HCON.out y (by rw [← hy]; exact List.getElem_mem hlt)))
        clear hy hrd
        go_wp2_with fail
        refine HCO.out.mono ?_
        rintro e' w5 ⟨rfl, ⟨nd, rfl⟩⟩
        have hbd : Below wr.heap.size wr (wr.drewN nd) := zqa (zqw _ _) nd
        have HS5 := K0 (HSr.out.below hbd)
        have HX5 := K0 (zqn HXr.out hbd)
        have HR5 := K0 (Kd.R_below HRr.out hbd)
        have HA5 := K0 (Kd.R_below HAr.out hbd)
        have HL5 := K0 (show g6 + 1 ≤ (wr.drewN nd).heap.size from HLr.out)
        obtain ⟨w5, hw5⟩ : ∃ w5, wr.drewN nd = w5 := ⟨_, rfl⟩
        rw [hw5] at HS5 HX5 HR5 HA5 HL5 ⊢
        clear hbd HSr HXr HRr HAr HLr HCO x2 hw5
        by_cases hm : y ∈ b2
        case neg =>
          have dm : decide (y ∈ b2) = false := zqu hm
          rw [dm]
          have HA8 := HA5
          rw [show (l1.take j).filter (fun x => decide (x ∈ b2)) = (l1.take (j + 1)).filter (fun x => decide (x ∈ b2)) by rw [HTK.out, List.filter_cons_of_neg (p := fun x => decide (x ∈ b2)) (by rw [dm]; decide), List.filter_nil, List.append_nil]] at HA8
          clear dm hm HTK HA5
          go_wp2
          go_roundg (l1.length - (j + 1))
          case measure => have := hg.out; omega
          case rel => exact ⟨j + 1, by simp, ⟨by have := hg.out; omega⟩, HS5, HL5, HX5, HR5, HA8⟩
        have dm : decide (y ∈ b2) = true := zqt hm
        rw [dm]
        have HTK2 := K0 (show (l1.take (j + 1)).filter (fun x => decide (x ∈ b2)) = (l1.take j).filter (fun x => decide (x ∈ b2)) ++ [y] by rw [HTK.out, List.filter_cons_of_pos (p := fun x => decide (x ∈ b2)) dm, List.filter_nil])
        clear dm hm HTK
        obtain ⟨acc, hacc⟩ : ∃ acc, (l1.take j).filter (fun x => decide (x ∈ b2)) = acc := ⟨_, rfl⟩
        rw [hacc] at HA5 HTK2 HLN2
        clear hacc
        go_wp2_with (at_builtin; refine Kd.R_append (Kd.int .i64) (w0 := w0) (W := w5) w0.heap.size rfl (.tmp 32) (.tmp 34) 25 3 (.int .i64 0) 8 rfl Try.underlying25 (by kernel_rfl) rfl (by decide) (by decide) u9 acc y [.int .i64 y] (fun k => T k = (0, 0) ∧ U k = 0 ∧ k ≠ g6) (fun _ => False) rfl rfl rfl (fun _ h => h.elim) (fun k hk => HG6.out k (by have := HL5.out; omega)) HA5.out HS5.out.old HS5.out.old.size HLN2.out ?_; intro v8 w8 r8 hb8 hg8 hat8)
        have HS8 := K0 (HS5.out.grown hg8 (fun k e => ⟨(HA5.out.1 k e).1, (HA5.out.1 k e).2.1, Kd.R_base HA5.out k e⟩))
        have HX8 := K0 (blk_grown HX5.out hg8 (fun e => (HA5.out.1 g6 e.symm).2.2 rfl))
        have HA8 := K0 r8
        have HR8 := K0 (Kd.R_after HR5.out hg8 hat8)
        have HL8 := K0 (Nat.le_trans HL5.out hg8.size)
        rw [← HTK2.out] at HA8
        clear r8 hb8 hg8 hat8 HA5 HR5 HX5 HS5 HL5
        go_wp2
        go_roundg (l1.length - (j + 1))
        case measure => have := hg.out; omega
        case rel => exact ⟨j + 1, by simp, ⟨by have := hg.out; omega⟩, HS8, HL8, HX8, HR8, HA8⟩
      have hd2 : decide ((j : Int) < (l1.length : Int)) = false := zqu (by omega)
      have Q2 : (j < l1.length) = False := eq_false hlt
      have ha := HAr.out
      rw [List.take_of_length_le (by omega), ← HCORE.out] at ha
      obtain ⟨co, hco⟩ : ∃ co, Z.core b2 = co := ⟨_, rfl⟩
      rw [hco] at ha HOP
      have HCO := K0 hco
      obtain ⟨A9, c9, e9⟩ := Kd.R_slice ha
      subst e9; have HA9 := K0 ha
      have HOPC := K0 (solve_opposites.calls k A9 c9 co cl _ (Kd.R_reads' ha).2.2 (Kd.R_reads' ha).2.1 HOP.out)
      clear ha HAr HRr hco
      go_wp2_with fail
      refine HOPC.out.mono ?_
      rintro e' w6 ⟨v6, rfl, r6, hb6⟩
      have hlr := HLr.out
      have HS6 := K0 (HSr.out.below hb6)
      have HX6 := K0 (zqn HXr.out hb6)
      have HA6 := K0 (Kd.R_mono (Kd.R_below (Kd.R_bound HA9.out) hb6) (fun k hk => ⟨hk.1, fun e => by have h1 := Kd.R_base r6 k e.symm; have h2 := hk.2.2.1; omega⟩) (ok' := fun k => (T k = (0, 0) ∧ U k = 0 ∧ k ≠ g6) ∧ some k ≠ v6.ownBlock))
      have HL6 := K0 (Nat.le_trans HLr.out hb6.size)
      have HR6 := K0 (show Kd.R (Kd.int .i64) 3 w6 w0.heap.size (fun k => T k = (0, 0) ∧ U k = 0 ∧ k ≠ g6) v6 cl from Kd.R_of_own (Kd.own_of_R (Kd.R_lower r6 HSr.out.old.size)) (fun k hk => HG6.out k (by have := Kd.R_base r6 k hk; omega)))
      obtain ⟨A6, c6, e6⟩ := Kd.R_slice r6
      subst e6; clear r6 hb6 hlr HSr HXr HLr HA9 HOPC
      have d64 : decide ((64 : Int) < (cl.length : Int)) = false := zqu (by have := HCL.out; omega)
      have e64 : (64 < cl.length) = False := eq_false (by have := HCL.out; omega)
      clear HCL
      obtain ⟨s7, m7, f7⟩ := HS6.out.color (Kd.R_mono HR6.out (fun k hk => ⟨hk.1, hk.2.1⟩))
      have HS7 := K0 s7; have HM7 := K0 m7
      have HF7 := K0 (f7 A6 c6 rfl)
      have HC7 := K0 (Kd.R_reads' HR6.out).2.1
      have HU7 := K0 (show paint U (.slice A6 cl.length c6) 4 g6 = 5 from (if_neg (fun e => (HR6.out.1 g6 e).2.2 rfl)).trans HTU.out.2)
      obtain ⟨U7, hU7⟩ : ∃ U7, paint U (.slice A6 cl.length c6) 4 = U7 := ⟨_, rfl⟩
      have HP5 := K0 (show ∀ g, U g = 5 → paint U (.slice A6 cl.length c6) 4 g = 5 from fun g hg => (if_neg (fun e => by have := (HR6.out.1 g e).2.1; rw [hg] at this; cases this)).trans hg)
      have HUA := K0 (show ∀ k, some k ≠ (Value.slice A6 cl.length c6).ownBlock → paint U (.slice A6 cl.length c6) 4 k = U k from fun k hk => if_neg (fun e => hk e.symm))
      rw [hU7] at HS7 HM7 HF7 HU7 HP5 HUA
      clear s7 m7 f7 hU7
      by_cases hl : 4096 ≤ Z.log.length
      case pos =>
        go_wp2_with fail
        refine (sol_put.full HS7.out (.slice A6 cl.length c6) hl).mono ?_
        rintro e' w9 ⟨rfl, rfl⟩
        obtain ⟨⟨b0, z0⟩, ⟨b1, z1⟩, ⟨b2_, z2⟩, ⟨b3, z3⟩, b4⟩ := put4_facts HX6.out (.bool false) (.slice none 0 0) (.slice none 0 0) (.int .i64 0)
        have HB4 := K0 b4
        have HO4 := K0 (put4_below HS7.out.old (Nat.le_trans HW0.out (show _ ≤ g6 from HG0.out)) (.bool false) (.slice none 0 0) (.slice none 0 0) (.int .i64 0))
        have HLL := K0 hl; clear b4 hl
        go_wp2
        refine bodyPost_ret (results_cell3 rfl _ _ g6 _ _ _ _ rfl HB4.out hu33 rfl (by kernel_rfl)) rfl ?_
        exact ⟨HO4.out, HQ5.out _ (fun g hg hne => (put4_far _ _ _ _ g hne).trans (HS7.out.five g (HP5.out g hg)).2), fun _ => rfl, fun h => absurd HLL.out (by omega)⟩
      have HCALL := K0 (sol_put.calls HS7.out A6 c6 cl HC7.out HF7.out (Nat.lt_of_not_le hl))
      have HLN := K0 hl; clear hl
      go_wp2_with fail
      refine HCALL.out.mono ?_
      rintro e' w9 ⟨rfl, hp⟩
      obtain ⟨T9, U9, p9, q9, s9, m9, k9⟩ := hp
      have HS9 := K0 s9
      have HX9 := K0 ((m9.same g6 (blk_lt HX6.out) HTU.out.1 (by rw [HU7.out]; decide)).trans HX6.out)
      have HA9 := K0 (Kd.R_mono (Kd.R_step (Kd.R_bound HA6.out) (fun k hk hl => m9.same k hl hk.1.1.1 (by rw [HUA.out k hk.1.2, hk.1.1.2.1]; decide))) (fun k hk => ⟨hk.1.1, (k9 k hk.2.2.1).trans (HUA.out k hk.1.2)⟩) (ok' := fun k => (T k = (0, 0) ∧ U k = 0 ∧ k ≠ g6) ∧ U9 k = U k))
      have H59 := K0 (show ∀ g, U g = 5 → w9.heap[g]? = q.five g from fun g hg => (by
        obtain ⟨f1, f2⟩ := HS7.out.five g (HP5.out g hg)
        have hl : g < _ := Nat.lt_of_not_le fun hle => by have := HS7.out.fresh g hle; rw [HP5.out g hg] at this; cases this
        exact (m9.same g hl f1 (by rw [HP5.out g hg]; decide)).trans f2))
      have HU95 := K0 (show ∀ g, U g = 5 → U9 g = 5 from fun g hg => (by
        have hl : g < _ := Nat.lt_of_not_le fun hle => by have := HS7.out.fresh g hle; rw [HP5.out g hg] at this; cases this
        exact (m9.ukn g hl (by rw [HP5.out g hg]; decide)).trans (HP5.out g hg)))
      have HU9 := K0 ((m9.ukn g6 (blk_lt HX6.out) (by rw [HU7.out]; decide)).trans HU7.out)
      clear s9 m9 k9 HCALL HS7 HM7 HF7 HX6 HA6 HUA
      go_upto_region 16 with fail
      obtain ⟨AL, kL, eL⟩ := Kd.N_slice HS9.out.log
      have d4 := HS9.out.cells.2.2.2.2.1
      have d5 := HS9.out.cells.2.2.2.2.2.1
      have hNL := HS9.out.log
      rw [eL] at d4 hNL
      have HNL := K0 hNL
      have dx := HX9.out
      obtain ⟨nL, hnL⟩ : ∃ nL, (Z.log ++ [(⟨false, cl⟩ : S64)]).length = nL := ⟨_, rfl⟩
      obtain ⟨st, hst⟩ : ∃ st, Z.steps = st := ⟨_, rfl⟩
      simp only [hnL, hst] at d4 d5 HNL
      have HST := K0 hst
      have e0 := zql dx 0
      have e1 := zql dx 1
      have e2 := zql dx 2
      have e3 := zql dx 3
      have y0 := zqm dx 0
      have y1 := zqm dx 1
      have y2 := zqm dx 2
      have y3 := zqm dx 3
      clear eL hNL hnL hst
      refine start_ (n := 13) (S := fun w' => w'.cell? ⟨S, 4, none⟩ = some (.slice AL nL kL) ∧ w'.cell? ⟨S, 5, none⟩ = some (.int .i64 st) ∧ w'.heap[g6]? = some (.cells #[.bool false, .slice none 0 0, .slice none 0 0, .int .i64 0] 33 (0, 0))) (ds := [10]) #[false, false, false, false, false, false, false, false, false, false, false, false, false] (by kernel_rfl) rfl rfl ⟨d4, d5, dx⟩ (fun hHeld => ?_)
      refine pure_ (i := 0) (N := some 54) (v := ?_) (a' := ?_) #[true, false, false, false, false, false, false, false, false, false, false, false, false] rfl rfl (by kernel_rfl) (fun _ _ _ h => h) (Or.inl ⟨by rfl, ?_⟩) ?_ ?_
      rotate_left
      · intro w'
        go_simp
        with_reducible rfl
      rotate_left
      · simp only [Act.put, zqf, zqg, zqh, i64_w, i32_w]
        rfl
      refine pure_ (i := 1) (N := some 55) (v := ?_) (a' := ?_) #[true, true, false, false, false, false, false, false, false, false, false, false, false] rfl rfl (by kernel_rfl) (fun _ _ _ h => h) (Or.inl ⟨by rfl, ?_⟩) ?_ ?_
      rotate_left
      · intro w'
        go_simp
        with_reducible rfl
      rotate_left
      · simp only [Act.put, zqf, zqg, zqh, i64_w, i32_w]
        rfl
      refine pure_ (i := 2) (N := some 56) (v := ?_) (a' := ?_) #[true, true, true, false, false, false, false, false, false, false, false, false, false] rfl rfl (by kernel_rfl) (fun _ _ _ h => h) (Or.inl ⟨by rfl, ?_⟩) ?_ ?_
      rotate_left
      · intro w'
        go_simp
        with_reducible rfl
      rotate_left
      · simp only [Act.put, zqf, zqg, zqh, i64_w, i32_w]
        rfl
      refine pure_ (i := 4) (N := some 58) (v := ?_) (a' := ?_) #[true, true, true, false, true, false, false, false, false, false, false, false, false] rfl rfl (by kernel_rfl) (fun _ _ _ h => h) (Or.inl ⟨by rfl, ?_⟩) ?_ ?_
      rotate_left
      · intro w'
        go_simp
        with_reducible rfl
      rotate_left
      · simp only [Act.put, zqf, zqg, zqh, i64_w, i32_w]
        rfl
      refine pure_ (i := 5) (N := some 59) (v := ?_) (a' := ?_) #[true, true, true, false, true, true, false, false, false, false, false, false, false] rfl rfl (by kernel_rfl) (fun _ _ _ h => h) (Or.inl ⟨by rfl, ?_⟩) ?_ ?_
      rotate_left
      · intro w'
        go_simp
        with_reducible rfl
      rotate_left
      · simp only [Act.put, zqf, zqg, zqh, i64_w, i32_w]
        rfl
      refine pure_ (i := 6) (N := some 60) (v := ?_) (a' := ?_) #[true, true, true, false, true, true, true, false, false, false, false, false, false] rfl rfl (by kernel_rfl) (fun _ _ _ h => h) (Or.inl ⟨by rfl, ?_⟩) ?_ ?_
      rotate_left
      · intro w'
        go_simp
        with_reducible rfl
      rotate_left
      · simp only [Act.put, zqf, zqg, zqh, i64_w, i32_w]
        rfl
      refine pure_ (i := 9) (N := some 63) (v := ?_) (a' := ?_) #[true, true, true, false, true, true, true, false, false, true, false, false, false] rfl rfl (by kernel_rfl) (fun _ _ _ h => h) (Or.inl ⟨by rfl, ?_⟩) ?_ ?_
      rotate_left
      · intro w'
        go_simp
        with_reducible rfl
      rotate_left
      · simp only [Act.put, zqf, zqg, zqh, i64_w, i32_w]
        rfl
      refine take_ (i := 3) (N := some 57) (v := ?_) (a' := ?_) #[true, true, true, true, true, true, true, false, false, true, false, false, false] rfl rfl (by kernel_rfl) (fun _ _ _ h => h) (Or.inl ⟨by rfl, ?_⟩) hHeld ?_ ?_
      rotate_left
      · rintro w' ⟨s0, s1, s2⟩
        go_simp
        with_reducible rfl
      rotate_left
      · simp only [Act.put, zqf, zqg, zqh, i64_w, i32_w]
        rfl
      refine take_ (i := 7) (N := some 61) (v := ?_) (a' := ?_) #[true, true, true, true, true, true, true, true, false, true, false, false, false] rfl rfl (by kernel_rfl) (fun _ _ _ h => h) (Or.inl ⟨by rfl, ?_⟩) hHeld ?_ ?_
      rotate_left
      · rintro w' ⟨s0, s1, s2⟩
        go_simp
        with_reducible rfl
      rotate_left
      · simp only [Act.put, zqf, zqg, zqh, i64_w, i32_w]
        rfl
      refine pure_ (i := 8) (N := some 62) (v := ?_) (a' := ?_) #[true, true, true, true, true, true, true, true, true, true, false, false, false] rfl rfl (by kernel_rfl) (fun _ _ _ h => h) (Or.inl ⟨by rfl, ?_⟩) ?_ ?_
      rotate_left
      · intro w'
        go_simp
        with_reducible rfl
      rotate_left
      · simp only [Act.put, zqf, zqg, zqh, i64_w, i32_w]
        rfl
      refine last_ (i := 10) (N := none) #[true, true, true, true, true, true, true, true, true, true, true, false, false] rfl rfl (by kernel_rfl) (by decide) (fun K hK => ?_)
      obtain ⟨⟨b0, z0⟩, ⟨b1, z1⟩, ⟨b2_, z2⟩, ⟨b3, z3⟩, b4⟩ := put4_facts hHeld.2.2 (.bool false) (.slice none 0 0) (.slice AL nL kL) (.int .i64 st)
      have HB4 := K0 b4; clear b4 b0 b1 b2_ b3 z0 z1 z2 z3
      refine skip_ (w1 := ?_) (by rfl) rfl ?_ ?_
      rotate_left
      · go_simp
        rfl
      refine hK.out _ _ ?_
      clear hK K
      refine pure_ (i := 11) (N := some 7) (v := ?_) (a' := ?_) #[true, true, true, true, true, true, true, true, true, true, true, true, false] rfl rfl (by kernel_rfl) (fun _ _ _ h => h) (Or.inl ⟨by rfl, ?_⟩) ?_ ?_
      rotate_left
      · intro w'
        go_simp
        with_reducible rfl
      rotate_left
      · simp only [Act.put, zqf, zqg, zqh, i64_w, i32_w]
        rfl
      refine pure_ (i := 12) (N := some 8) (v := ?_) (a' := ?_) #[true, true, true, true, true, true, true, true, true, true, true, true, true] rfl rfl (by kernel_rfl) (fun _ _ _ h => h) (Or.inl ⟨by rfl, ?_⟩) ?_ ?_
      rotate_left
      · intro w'
        go_simp
        with_reducible rfl
      rotate_left
      · simp only [Act.put, zqf, zqg, zqh, i64_w, i32_w]
        rfl
      refine done_ (by kernel_rfl) ?_
      have HB5 := K0 (put4_facts dx (.bool false) (.slice none 0 0) (.slice AL nL kL) (.int .i64 st)).2.2.2.2
      have hfar := put4_far (w := w9) (g := g6) (.bool false) (.slice none 0 0) (.slice AL nL kL) (.int .i64 st)
      have HO5 := K0 (put4_below HS9.out.old (Nat.le_trans HW0.out HG0.out) (.bool false) (.slice none 0 0) (.slice AL nL kL) (.int .i64 st))
      have hge : w0.heap.size ≤ g6 := Nat.le_trans HW0.out HG0.out
      have HN5 := K0 (Kd.N_step HNL.out (fun k hk _ => hfar k (fun e => by
        subst e
        rcases hk with hk | hk
        · rw [HU9.out] at hk; cases hk.2
        · rw [HU9.out] at hk; cases hk.2)))
      have HA5 := K0 (Kd.R_step HA9.out (fun k hk _ => hfar k hk.1.2.2))
      have HCOR := K0 (show Z.core (Sol.blame2 bl l) = co by rw [HB2.out, HCO.out])
      clear hfar hge d4 d5 dx e0 e1 e2 e3 y0 y1 y2 y3
      go_wp2
      refine bodyPost_ret (results_cell3 rfl _ _ g6 _ _ _ _ rfl HB5.out hu33 rfl (by kernel_rfl)) rfl ?_
      have hdr : Below (put4 w9 g6 (.bool false) (.slice none 0 0) (.slice AL nL kL) (.int .i64 st)).heap.size (put4 w9 g6 (.bool false) (.slice none 0 0) (.slice AL nL kL) (.int .i64 st)) (put4 w9 g6 (.bool false) (.slice none 0 0) (.slice AL nL kL) (.int .i64 st)).drew := below_drew (zqw _ _)
      exact ⟨zqo HO5.out hdr, HQ5.out _ (fun g hg hne => (put4_far (.bool false) (.slice none 0 0) (.slice AL nL kL) (.int .i64 st) g hne).trans (H59.out g hg)), fun h => absurd h HLN.out, fun _ => ⟨_, _, by rw [HST.out]; rfl, Kd.N_mono (Kd.N_below HN5.out hdr) (fun k hk => ⟨⟨Nat.le_of_not_lt fun hlt => (by
        have h0 := (HS9.out.t0 k hlt).2
        rcases hk with hk | hk
        · rw [h0] at hk; cases hk.2
        · rw [h0] at hk; cases hk.2), fun e => (by
        have e9 := HU95.out k (H5U.out k e)
        rcases hk with hk | hk
        · rw [e9] at hk; cases hk.2
        · rw [e9] at hk; cases hk.2)⟩, fun e => (by
        have h9 := HA9.out.1 k e.symm
        have h0 := h9.2.trans h9.1.2.1
        rcases hk with hk | hk
        · rw [h0] at hk; cases hk.2
        rw [h0] at hk; cases hk.2)⟩), by rw [HCOR.out]; exact Kd.R_mono (Kd.R_lower (Kd.R_mono (Kd.R_bound (Kd.R_below HA5.out hdr)) (fun k hk => (⟨hk.2.1, fun e => by have h9 := hk.1.1.2.1; rw [H5U.out k e] at h9; cases h9⟩ : okU w0 _ k))) (Nat.zero_le _)) (fun _ hk => hk)⟩⟩
  have q1 : (l != 0) = true := by simpa using hl
  have HB2 := K0 (show Sol.blame2 bl l = bl ++ [l] by unfold Sol.blame2; rw [if_pos hl])
  clear hl
  have HLN := K0 (show (bl.length + 1) * 8 ≤ 140737488355328 by have := HBL.out; omega)
  go_upto_region 3 with (at_builtin; refine Kd.R_append (Kd.int .i64) (w0 := w0) (W := W1) w0.heap.size rfl (.tmp 16) (.tmp 18) 25 3 (.int .i64 0) 8 rfl Try.underlying25 (by kernel_rfl) rfl (by decide) (by decide) (.slice A bl.length c) bl l [.int .i64 l] (fun k => T k = (0, 0) ∧ U k = 0 ∧ k ≠ g6) (fun _ => False) rfl rfl rfl (fun _ h => h.elim) (fun k hk => HG6.out k (by have := HS1Z.out; omega)) HR1.out HS1.out.old HS1.out.old.size HLN.out ?_; intro v2 w2 r2 hb2 hg2 hat2)
  have HS2 := K0 (HS1.out.grown hg2 (fun k e => ⟨(HR1.out.1 k e).1, (HR1.out.1 k e).2.1, Kd.R_base HR1.out k e⟩))
  have HX2 := K0 (blk_grown HX1.out hg2 (fun e => (HR1.out.1 g6 e.symm).2.2 rfl))
  have HR2 := K0 r2
  obtain ⟨A2, c2, e2⟩ := Kd.R_slice r2
  subst e2
  have HLW := K0 (show g6 + 1 ≤ w2.heap.size by have := hg2.size; rw [HS1Z.out] at this; exact this)
  clear r2 hb2 hg2 hat2 HS1 HX1 HR1
  obtain ⟨W2, hW2⟩ : ∃ W2, w2 = W2 := ⟨_, rfl⟩
  obtain ⟨b2, hb2⟩ : ∃ b2, bl ++ [l] = b2 := ⟨_, rfl⟩
  rw [hb2] at HB2 HR2 ⊢
  rw [hW2] at HS2 HX2 HR2 HLW ⊢
  clear hW2 hb2
  rw [HB2.out] at HCON HOP
  have c3 := HS2.out.cells.2.2.2.1
  have hbig := (Kd.F_now HS2.out.asm).2.1
  obtain ⟨aA, haA⟩ : ∃ a, q.aA = a := ⟨_, rfl⟩
  obtain ⟨cA, hcA⟩ : ∃ a, q.cA = a := ⟨_, rfl⟩
  obtain ⟨l1, hl1⟩ : ∃ a, Z.asm = a := ⟨_, rfl⟩
  rw [haA, hcA, hl1] at c3
  rw [hl1] at hbig HCON HASM
  have HASMR := K0 (show ∀ W, SolIn w0 W S B T U Z p q → Kd.C (Kd.int .i64) W aA l1.length l1 from fun W h => by have := Kd.F_now h.asm; rw [haA, hl1] at this; exact this)
  have HCORE := K0 (show Z.core b2 = l1.filter fun x => decide (x ∈ b2) by unfold Sol.core; rw [hl1])
  clear haA hcA hl1
  go_wp2
  go_loopg [9, 25] l1.length (fun gg v9 v25 wr => ∃ (j : Nat), v25 = .int .i64 (j : Int) ∧ Aside0 (j + gg = l1.length) ∧ Aside0 (SolIn w0 wr S B T U Z p q) ∧ Aside0 (g6 + 1 ≤ wr.heap.size) ∧ Aside0 (wr.heap[g6]? = some (.cells #[.bool false, .slice none 0 0, .slice none 0 0, .int .i64 0] 33 (0, 0))) ∧ Aside0 (Kd.R (Kd.int .i64) 3 wr w0.heap.size (fun k => (T k = (0, 0) ∧ U k = 0 ∧ k ≠ g6) ∧ some k ≠ v9.ownBlock) (.slice A2 b2.length c2) b2) ∧ Aside0 (Kd.R (Kd.int .i64) 3 wr w0.heap.size (fun k => T k = (0, 0) ∧ U k = 0 ∧ k ≠ g6) v9 ((l1.take j).filter fun x => decide (x ∈ b2))))
  case atStart => exact ⟨0, rfl, ⟨by simp⟩, HS2, HLW, HX2, ⟨Kd.R_mono HR2.out (fun k hk => ⟨hk, by simp [Value.ownBlock]⟩)⟩, ⟨Kd.R_nil _ _ _ _ _⟩⟩
  case round =>
    clear HS2 HX2 HR2 HLW c3
    obtain ⟨j, rfl, hg, HSr, HLr, HXr, HRr, HAr⟩ := hrel
    by_cases hlt : j < l1.length
    case pos =>
      obtain ⟨ad2, e2, x2⟩ := Kd.at_int (HASMR.out _ HSr.out) (j : Int) (by omega) (by omega)
      cases e2
      obtain ⟨y, hy⟩ : ∃ y, l1[j] = y := ⟨_, rfl⟩
      have hrd : rd l1 (j : Int) = y := by simp [rd, hlt, hy]
      rw [hrd] at x2
      simp only [Int.toNat_natCast] at x2
      have Q0 : ((0 : Int) ≤ (j : Int)) = True := eq_true (by omega)
      have Q1 : ((j : Int) < (l1.length : Int)) = True := eq_true (by omega)
      have Q2 : (j < l1.length) = True := eq_true hlt
      have hd2 : decide ((j : Int) < (l1.length : Int)) = true := zqt (by omega)
      have HTK := K0 (show (l1.take (j + 1)).filter (fun x => decide (x ∈ b2)) = (l1.take j).filter (fun x => decide (x ∈ b2)) ++ [y].filter (fun x => decide (x ∈ b2)) by rw [List.take_add_one, List.getElem?_eq_getElem hlt, hy, List.filter_append]; rfl)
      have HLN2 := K0 (show (((l1.take j).filter (fun x => decide (x ∈ b2))).length + 1) * 8 ≤ 140737488355328 by
        have := List.length_filter_le (fun x => decide (x ∈ b2)) (l1.take j)
        have h2 := HASM.out
        rw [zqr] at this
        omega)
      have HCO := K0 (slices_Contains_int_int.calls k A2 c2 b2 y (decide (y ∈ b2)) wr (Kd.R_reads' HRr.out).2.2 (Kd.R_reads' HRr.out).2.1 (HCON.out y (by rw [← hy]; exact List.getElem_mem hlt)))
      clear hy hrd
      go_wp2_with fail
      refine HCO.out.mono ?_
      rintro e' w5 ⟨rfl, ⟨nd, rfl⟩⟩
      have hbd : Below wr.heap.size wr (wr.drewN nd) := zqa (zqw _ _) nd
      have HS5 := K0 (HSr.out.below hbd)
      have HX5 := K0 (zqn HXr.out hbd)
      have HR5 := K0 (Kd.R_below HRr.out hbd)
      have HA5 := K0 (Kd.R_below HAr.out hbd)
      have HL5 := K0 (show g6 + 1 ≤ (wr.drewN nd).heap.size from HLr.out)
      obtain ⟨w5, hw5⟩ : ∃ w5, wr.drewN nd = w5 := ⟨_, rfl⟩
      rw [hw5] at HS5 HX5 HR5 HA5 HL5 ⊢
      clear hbd HSr HXr HRr HAr HLr HCO x2 hw5
      by_cases hm : y ∈ b2
      case neg =>
        have dm : decide (y ∈ b2) = false := zqu hm
        rw [dm]
        have HA8 := HA5
        rw [show (l1.take j).filter (fun x => decide (x ∈ b2)) = (l1.take (j + 1)).filter (fun x => decide (x ∈ b2)) by rw [HTK.out, List.filter_cons_of_neg (p := fun x => decide (x ∈ b2)) (by rw [dm]; decide), List.filter_nil, List.append_nil]] at HA8
        clear dm hm HTK HA5
        go_wp2
        go_roundg (l1.length - (j + 1))
        case measure => have := hg.out; omega
        case rel => exact ⟨j + 1, by simp, ⟨by have := hg.out; omega⟩, HS5, HL5, HX5, HR5, HA8⟩
      have dm : decide (y ∈ b2) = true := zqt hm
      rw [dm]
      have HTK2 := K0 (show (l1.take (j + 1)).filter (fun x => decide (x ∈ b2)) = (l1.take j).filter (fun x => decide (x ∈ b2)) ++ [y] by rw [HTK.out, List.filter_cons_of_pos (p := fun x => decide (x ∈ b2)) dm, List.filter_nil])
      clear dm hm HTK
      obtain ⟨acc, hacc⟩ : ∃ acc, (l1.take j).filter (fun x => decide (x ∈ b2)) = acc := ⟨_, rfl⟩
      rw [hacc] at HA5 HTK2 HLN2
      clear hacc
      go_wp2_with (at_builtin; refine Kd.R_append (Kd.int .i64) (w0 := w0) (W := w5) w0.heap.size rfl (.tmp 32) (.tmp 34) 25 3 (.int .i64 0) 8 rfl Try.underlying25 (by kernel_rfl) rfl (by decide) (by decide) u9 acc y [.int .i64 y] (fun k => T k = (0, 0) ∧ U k = 0 ∧ k ≠ g6) (fun _ => False) rfl rfl rfl (fun _ h => h.elim) (fun k hk => HG6.out k (by have := HL5.out; omega)) HA5.out HS5.out.old HS5.out.old.size HLN2.out ?_; intro v8 w8 r8 hb8 hg8 hat8)
      have HS8 := K0 (HS5.out.grown hg8 (fun k e => ⟨(HA5.out.1 k e).1, (HA5.out.1 k e).2.1, Kd.R_base HA5.out k e⟩))
      have HX8 := K0 (blk_grown HX5.out hg8 (fun e => (HA5.out.1 g6 e.symm).2.2 rfl))
      have HA8 := K0 r8
      have HR8 := K0 (Kd.R_after HR5.out hg8 hat8)
      have HL8 := K0 (Nat.le_trans HL5.out hg8.size)
      rw [← HTK2.out] at HA8
      clear r8 hb8 hg8 hat8 HA5 HR5 HX5 HS5 HL5
      go_wp2
      go_roundg (l1.length - (j + 1))
      case measure => have := hg.out; omega
      case rel => exact ⟨j + 1, by simp, ⟨by have := hg.out; omega⟩, HS8, HL8, HX8, HR8, HA8⟩
    have hd2 : decide ((j : Int) < (l1.length : Int)) = false := zqu (by omega)
    have Q2 : (j < l1.length) = False := eq_false hlt
    have ha := HAr.out
    rw [List.take_of_length_le (by omega), ← HCORE.out] at ha
    obtain ⟨co, hco⟩ : ∃ co, Z.core b2 = co := ⟨_, rfl⟩
    rw [hco] at ha HOP
    have HCO := K0 hco
    obtain ⟨A9, c9, e9⟩ := Kd.R_slice ha
    subst e9; have HA9 := K0 ha
    have HOPC := K0 (solve_opposites.calls k A9 c9 co cl _ (Kd.R_reads' ha).2.2 (Kd.R_reads' ha).2.1 HOP.out)
    clear ha HAr HRr hco
    go_wp2_with fail
    refine HOPC.out.mono ?_
    rintro e' w6 ⟨v6, rfl, r6, hb6⟩
    have hlr := HLr.out
    have HS6 := K0 (HSr.out.below hb6)
    have HX6 := K0 (zqn HXr.out hb6)
    have HA6 := K0 (Kd.R_mono (Kd.R_below (Kd.R_bound HA9.out) hb6) (fun k hk => ⟨hk.1, fun e => by have h1 := Kd.R_base r6 k e.symm; have h2 := hk.2.2.1; omega⟩) (ok' := fun k => (T k = (0, 0) ∧ U k = 0 ∧ k ≠ g6) ∧ some k ≠ v6.ownBlock))
    have HL6 := K0 (Nat.le_trans HLr.out hb6.size)
    have HR6 := K0 (show Kd.R (Kd.int .i64) 3 w6 w0.heap.size (fun k => T k = (0, 0) ∧ U k = 0 ∧ k ≠ g6) v6 cl from Kd.R_of_own (Kd.own_of_R (Kd.R_lower r6 HSr.out.old.size)) (fun k hk => HG6.out k (by have := Kd.R_base r6 k hk; omega)))
    obtain ⟨A6, c6, e6⟩ := Kd.R_slice r6
    subst e6; clear r6 hb6 hlr HSr HXr HLr HA9 HOPC
    have d64 : decide ((64 : Int) < (cl.length : Int)) = false := zqu (by have := HCL.out; omega)
    have e64 : (64 < cl.length) = False := eq_false (by have := HCL.out; omega)
    clear HCL
    obtain ⟨s7, m7, f7⟩ := HS6.out.color (Kd.R_mono HR6.out (fun k hk => ⟨hk.1, hk.2.1⟩))
    have HS7 := K0 s7; have HM7 := K0 m7
    have HF7 := K0 (f7 A6 c6 rfl)
    have HC7 := K0 (Kd.R_reads' HR6.out).2.1
    have HU7 := K0 (show paint U (.slice A6 cl.length c6) 4 g6 = 5 from (if_neg (fun e => (HR6.out.1 g6 e).2.2 rfl)).trans HTU.out.2)
    obtain ⟨U7, hU7⟩ : ∃ U7, paint U (.slice A6 cl.length c6) 4 = U7 := ⟨_, rfl⟩
    have HP5 := K0 (show ∀ g, U g = 5 → paint U (.slice A6 cl.length c6) 4 g = 5 from fun g hg => (if_neg (fun e => by have := (HR6.out.1 g e).2.1; rw [hg] at this; cases this)).trans hg)
    have HUA := K0 (show ∀ k, some k ≠ (Value.slice A6 cl.length c6).ownBlock → paint U (.slice A6 cl.length c6) 4 k = U k from fun k hk => if_neg (fun e => hk e.symm))
    rw [hU7] at HS7 HM7 HF7 HU7 HP5 HUA
    clear s7 m7 f7 hU7
    by_cases hl : 4096 ≤ Z.log.length
    case pos =>
      go_wp2_with fail
      refine (sol_put.full HS7.out (.slice A6 cl.length c6) hl).mono ?_
      rintro e' w9 ⟨rfl, rfl⟩
      obtain ⟨⟨b0, z0⟩, ⟨b1, z1⟩, ⟨b2_, z2⟩, ⟨b3, z3⟩, b4⟩ := put4_facts HX6.out (.bool false) (.slice none 0 0) (.slice none 0 0) (.int .i64 0)
      have HB4 := K0 b4
      have HO4 := K0 (put4_below HS7.out.old (Nat.le_trans HW0.out (show _ ≤ g6 from HG0.out)) (.bool false) (.slice none 0 0) (.slice none 0 0) (.int .i64 0))
      have HLL := K0 hl; clear b4 hl
      go_wp2
      refine bodyPost_ret (results_cell3 rfl _ _ g6 _ _ _ _ rfl HB4.out hu33 rfl (by kernel_rfl)) rfl ?_
      exact ⟨HO4.out, HQ5.out _ (fun g hg hne => (put4_far _ _ _ _ g hne).trans (HS7.out.five g (HP5.out g hg)).2), fun _ => rfl, fun h => absurd HLL.out (by omega)⟩
    have HCALL := K0 (sol_put.calls HS7.out A6 c6 cl HC7.out HF7.out (Nat.lt_of_not_le hl))
    have HLN := K0 hl; clear hl
    go_wp2_with fail
    refine HCALL.out.mono ?_
    rintro e' w9 ⟨rfl, hp⟩
    obtain ⟨T9, U9, p9, q9, s9, m9, k9⟩ := hp
    have HS9 := K0 s9
    have HX9 := K0 ((m9.same g6 (blk_lt HX6.out) HTU.out.1 (by rw [HU7.out]; decide)).trans HX6.out)
    have HA9 := K0 (Kd.R_mono (Kd.R_step (Kd.R_bound HA6.out) (fun k hk hl => m9.same k hl hk.1.1.1 (by rw [HUA.out k hk.1.2, hk.1.1.2.1]; decide))) (fun k hk => ⟨hk.1.1, (k9 k hk.2.2.1).trans (HUA.out k hk.1.2)⟩) (ok' := fun k => (T k = (0, 0) ∧ U k = 0 ∧ k ≠ g6) ∧ U9 k = U k))
    have H59 := K0 (show ∀ g, U g = 5 → w9.heap[g]? = q.five g from fun g hg => (by
      obtain ⟨f1, f2⟩ := HS7.out.five g (HP5.out g hg)
      have hl : g < _ := Nat.lt_of_not_le fun hle => by have := HS7.out.fresh g hle; rw [HP5.out g hg] at this; cases this
      exact (m9.same g hl f1 (by rw [HP5.out g hg]; decide)).trans f2))
    have HU95 := K0 (show ∀ g, U g = 5 → U9 g = 5 from fun g hg => (by
      have hl : g < _ := Nat.lt_of_not_le fun hle => by have := HS7.out.fresh g hle; rw [HP5.out g hg] at this; cases this
      exact (m9.ukn g hl (by rw [HP5.out g hg]; decide)).trans (HP5.out g hg)))
    have HU9 := K0 ((m9.ukn g6 (blk_lt HX6.out) (by rw [HU7.out]; decide)).trans HU7.out)
    clear s9 m9 k9 HCALL HS7 HM7 HF7 HX6 HA6 HUA
    go_upto_region 16 with fail
    obtain ⟨AL, kL, eL⟩ := Kd.N_slice HS9.out.log
    have d4 := HS9.out.cells.2.2.2.2.1
    have d5 := HS9.out.cells.2.2.2.2.2.1
    have hNL := HS9.out.log
    rw [eL] at d4 hNL
    have HNL := K0 hNL
    have dx := HX9.out
    obtain ⟨nL, hnL⟩ : ∃ nL, (Z.log ++ [(⟨false, cl⟩ : S64)]).length = nL := ⟨_, rfl⟩
    obtain ⟨st, hst⟩ : ∃ st, Z.steps = st := ⟨_, rfl⟩
    simp only [hnL, hst] at d4 d5 HNL
    have HST := K0 hst
    have e0 := zql dx 0
    have e1 := zql dx 1
    have e2 := zql dx 2
    have e3 := zql dx 3
    have y0 := zqm dx 0
    have y1 := zqm dx 1
    have y2 := zqm dx 2
    have y3 := zqm dx 3
    clear eL hNL hnL hst
    refine start_ (n := 13) (S := fun w' => w'.cell? ⟨S, 4, none⟩ = some (.slice AL nL kL) ∧ w'.cell? ⟨S, 5, none⟩ = some (.int .i64 st) ∧ w'.heap[g6]? = some (.cells #[.bool false, .slice none 0 0, .slice none 0 0, .int .i64 0] 33 (0, 0))) (ds := [10]) #[false, false, false, false, false, false, false, false, false, false, false, false, false] (by kernel_rfl) rfl rfl ⟨d4, d5, dx⟩ (fun hHeld => ?_)
    refine pure_ (i := 0) (N := some 54) (v := ?_) (a' := ?_) #[true, false, false, false, false, false, false, false, false, false, false, false, false] rfl rfl (by kernel_rfl) (fun _ _ _ h => h) (Or.inl ⟨by rfl, ?_⟩) ?_ ?_
    rotate_left
    · intro w'
      go_simp
      with_reducible rfl
    rotate_left
    · simp only [Act.put, zqf, zqg, zqh, i64_w, i32_w]
      rfl
    refine pure_ (i := 1) (N := some 55) (v := ?_) (a' := ?_) #[true, true, false, false, false, false, false, false, false, false, false, false, false] rfl rfl (by kernel_rfl) (fun _ _ _ h => h) (Or.inl ⟨by rfl, ?_⟩) ?_ ?_
    rotate_left
    · intro w'
      go_simp
      with_reducible rfl
    rotate_left
    · simp only [Act.put, zqf, zqg, zqh, i64_w, i32_w]
      rfl
    refine pure_ (i := 2) (N := some 56) (v := ?_) (a' := ?_) #[true, true, true, false, false, false, false, false, false, false, false, false, false] rfl rfl (by kernel_rfl) (fun _ _ _ h => h) (Or.inl ⟨by rfl, ?_⟩) ?_ ?_
    rotate_left
    · intro w'
      go_simp
      with_reducible rfl
    rotate_left
    · simp only [Act.put, zqf, zqg, zqh, i64_w, i32_w]
      rfl
    refine pure_ (i := 4) (N := some 58) (v := ?_) (a' := ?_) #[true, true, true, false, true, false, false, false, false, false, false, false, false] rfl rfl (by kernel_rfl) (fun _ _ _ h => h) (Or.inl ⟨by rfl, ?_⟩) ?_ ?_
    rotate_left
    · intro w'
      go_simp
      with_reducible rfl
    rotate_left
    · simp only [Act.put, zqf, zqg, zqh, i64_w, i32_w]
      rfl
    refine pure_ (i := 5) (N := some 59) (v := ?_) (a' := ?_) #[true, true, true, false, true, true, false, false, false, false, false, false, false] rfl rfl (by kernel_rfl) (fun _ _ _ h => h) (Or.inl ⟨by rfl, ?_⟩) ?_ ?_
    rotate_left
    · intro w'
      go_simp
      with_reducible rfl
    rotate_left
    · simp only [Act.put, zqf, zqg, zqh, i64_w, i32_w]
      rfl
    refine pure_ (i := 6) (N := some 60) (v := ?_) (a' := ?_) #[true, true, true, false, true, true, true, false, false, false, false, false, false] rfl rfl (by kernel_rfl) (fun _ _ _ h => h) (Or.inl ⟨by rfl, ?_⟩) ?_ ?_
    rotate_left
    · intro w'
      go_simp
      with_reducible rfl
    rotate_left
    · simp only [Act.put, zqf, zqg, zqh, i64_w, i32_w]
      rfl
    refine pure_ (i := 9) (N := some 63) (v := ?_) (a' := ?_) #[true, true, true, false, true, true, true, false, false, true, false, false, false] rfl rfl (by kernel_rfl) (fun _ _ _ h => h) (Or.inl ⟨by rfl, ?_⟩) ?_ ?_
    rotate_left
    · intro w'
      go_simp
      with_reducible rfl
    rotate_left
    · simp only [Act.put, zqf, zqg, zqh, i64_w, i32_w]
      rfl
    refine take_ (i := 3) (N := some 57) (v := ?_) (a' := ?_) #[true, true, true, true, true, true, true, false, false, true, false, false, false] rfl rfl (by kernel_rfl) (fun _ _ _ h => h) (Or.inl ⟨by rfl, ?_⟩) hHeld ?_ ?_
    rotate_left
    · rintro w' ⟨s0, s1, s2⟩
      go_simp
      with_reducible rfl
    rotate_left
    · simp only [Act.put, zqf, zqg, zqh, i64_w, i32_w]
      rfl
    refine take_ (i := 7) (N := some 61) (v := ?_) (a' := ?_) #[true, true, true, true, true, true, true, true, false, true, false, false, false] rfl rfl (by kernel_rfl) (fun _ _ _ h => h) (Or.inl ⟨by rfl, ?_⟩) hHeld ?_ ?_
    rotate_left
    · rintro w' ⟨s0, s1, s2⟩
      go_simp
      with_reducible rfl
    rotate_left
    · simp only [Act.put, zqf, zqg, zqh, i64_w, i32_w]
      rfl
    refine pure_ (i := 8) (N := some 62) (v := ?_) (a' := ?_) #[true, true, true, true, true, true, true, true, true, true, false, false, false] rfl rfl (by kernel_rfl) (fun _ _ _ h => h) (Or.inl ⟨by rfl, ?_⟩) ?_ ?_
    rotate_left
    · intro w'
      go_simp
      with_reducible rfl
    rotate_left
    · simp only [Act.put, zqf, zqg, zqh, i64_w, i32_w]
      rfl
    refine last_ (i := 10) (N := none) #[true, true, true, true, true, true, true, true, true, true, true, false, false] rfl rfl (by kernel_rfl) (by decide) (fun K hK => ?_)
    obtain ⟨⟨b0, z0⟩, ⟨b1, z1⟩, ⟨b2_, z2⟩, ⟨b3, z3⟩, b4⟩ := put4_facts hHeld.2.2 (.bool false) (.slice none 0 0) (.slice AL nL kL) (.int .i64 st)
    have HB4 := K0 b4; clear b4 b0 b1 b2_ b3 z0 z1 z2 z3
    refine skip_ (w1 := ?_) (by rfl) rfl ?_ ?_
    rotate_left
    · go_simp
      rfl
    refine hK.out _ _ ?_
    clear hK K
    refine pure_ (i := 11) (N := some 7) (v := ?_) (a' := ?_) #[true, true, true, true, true, true, true, true, true, true, true, true, false] rfl rfl (by kernel_rfl) (fun _ _ _ h => h) (Or.inl ⟨by rfl, ?_⟩) ?_ ?_
    rotate_left
    · intro w'
      go_simp
      with_reducible rfl
    rotate_left
    · simp only [Act.put, zqf, zqg, zqh, i64_w, i32_w]
      rfl
    refine pure_ (i := 12) (N := some 8) (v := ?_) (a' := ?_) #[true, true, true, true, true, true, true, true, true, true, true, true, true] rfl rfl (by kernel_rfl) (fun _ _ _ h => h) (Or.inl ⟨by rfl, ?_⟩) ?_ ?_
    rotate_left
    · intro w'
      go_simp
      with_reducible rfl
    rotate_left
    · simp only [Act.put, zqf, zqg, zqh, i64_w, i32_w]
      rfl
    refine done_ (by kernel_rfl) ?_
    have HB5 := K0 (put4_facts dx (.bool false) (.slice none 0 0) (.slice AL nL kL) (.int .i64 st)).2.2.2.2
    have hfar := put4_far (w := w9) (g := g6) (.bool false) (.slice none 0 0) (.slice AL nL kL) (.int .i64 st)
    have HO5 := K0 (put4_below HS9.out.old (Nat.le_trans HW0.out HG0.out) (.bool false) (.slice none 0 0) (.slice AL nL kL) (.int .i64 st))
    have hge : w0.heap.size ≤ g6 := Nat.le_trans HW0.out HG0.out
    have HN5 := K0 (Kd.N_step HNL.out (fun k hk _ => hfar k (fun e => by
      subst e
      rcases hk with hk | hk
      · rw [HU9.out] at hk; cases hk.2
      · rw [HU9.out] at hk; cases hk.2)))
    have HA5 := K0 (Kd.R_step HA9.out (fun k hk _ => hfar k hk.1.2.2))
    have HCOR := K0 (show Z.core (Sol.blame2 bl l) = co by rw [HB2.out, HCO.out])
    clear hfar hge d4 d5 dx e0 e1 e2 e3 y0 y1 y2 y3
    go_wp2
    refine bodyPost_ret (results_cell3 rfl _ _ g6 _ _ _ _ rfl HB5.out hu33 rfl (by kernel_rfl)) rfl ?_
    have hdr : Below (put4 w9 g6 (.bool false) (.slice none 0 0) (.slice AL nL kL) (.int .i64 st)).heap.size (put4 w9 g6 (.bool false) (.slice none 0 0) (.slice AL nL kL) (.int .i64 st)) (put4 w9 g6 (.bool false) (.slice none 0 0) (.slice AL nL kL) (.int .i64 st)).drew := below_drew (zqw _ _)
    exact ⟨zqo HO5.out hdr, HQ5.out _ (fun g hg hne => (put4_far (.bool false) (.slice none 0 0) (.slice AL nL kL) (.int .i64 st) g hne).trans (H59.out g hg)), fun h => absurd h HLN.out, fun _ => ⟨_, _, by rw [HST.out]; rfl, Kd.N_mono (Kd.N_below HN5.out hdr) (fun k hk => ⟨⟨Nat.le_of_not_lt fun hlt => (by
      have h0 := (HS9.out.t0 k hlt).2
      rcases hk with hk | hk
      · rw [h0] at hk; cases hk.2
      · rw [h0] at hk; cases hk.2), fun e => (by
      have e9 := HU95.out k (H5U.out k e)
      rcases hk with hk | hk
      · rw [e9] at hk; cases hk.2
      · rw [e9] at hk; cases hk.2)⟩, fun e => (by
      have h9 := HA9.out.1 k e.symm
      have h0 := h9.2.trans h9.1.2.1
      rcases hk with hk | hk
      · rw [h0] at hk; cases hk.2
      rw [h0] at hk; cases hk.2)⟩), by rw [HCOR.out]; exact Kd.R_mono (Kd.R_lower (Kd.R_mono (Kd.R_bound (Kd.R_below HA5.out hdr)) (fun k hk => (⟨hk.2.1, fun e => by have h9 := hk.1.1.2.1; rw [H5U.out k e] at h9; cases h9⟩ : okU w0 _ k))) (Nat.zero_le _)) (fun _ hk => hk)⟩⟩
def endFound (Z : Sol) (cl bl : List Int) (l : Int) : Found := if 4096 ≤ Z.log.length then Found.bad 2 0 else ⟨0, false, [], Z.log ++ [⟨false, cl⟩], Z.steps, Z.core (Sol.blame2 bl l)⟩
def FoundIn (w0 w : World) (U : Col) (r : Found) (e : Ending) (w' : World) : Prop :=
  Below w0.heap.size w0 w' ∧ (∀ g, U g = 5 → w'.heap[g]? = w.heap[g]?) ∧ ∃ vV vL vN, e = .returned (.tuple #[.agg #[.bool r.sat, vV, vL, .int .i64 r.steps], vN, .int .i64 r.err]) ∧ Kd.R Kd.bool 4 w' 0 (okU w0 U) vV r.vals ∧ Kd.N k64 64 w' 0 (fun k => (okU w0 U k ∧ some k ≠ vN.ownBlock) ∧ some k ≠ vV.ownBlock) vL r.log ∧ Kd.R (Kd.int .i64) 3 w' 0 (okU w0 U) vN r.need
theorem sol_end.run (k : Nat) {w0 w : World} {S B : Nat} {T : Tag} {U : Col} {Z : Sol} {p : EngP} {q : SolP} (h0 : SolIn w0 w S B T U Z p q) (A : Option Addr) (c : Nat) (bl : List Int) (l : Int) (cl : List Int) (r : Found)
    (hr : Kd.R (Kd.int .i64) 3 w w0.heap.size (fun k => T k = (0, 0) ∧ U k = 0) (.slice A bl.length c) bl) (hf : Z.ends k bl l cl) (he : endFound Z cl bl l = r) :
    Calls Try.prog 43 #[.pointer (some ⟨S, 0, none⟩), .slice A bl.length c, .int .i64 l] w fun e w' => FoundIn w0 w U r e w' := by
  refine (sol_end.calls k h0 A c bl l cl hr hf).mono ?_
  rintro e w' ⟨h1, h2, h3, h4⟩
  refine ⟨h1, h2, ?_⟩
  subst he
  unfold endFound
  by_cases hl : 4096 ≤ Z.log.length
  case pos =>
    rw [if_pos hl]
    exact ⟨_, _, _, h3 hl, Kd.R_nil _ _ _ _ _, Kd.N_nil _ _ _ _ _, Kd.R_nil _ _ _ _ _⟩
  rw [if_neg hl]
  obtain ⟨vL, vN, e1, e2, e3⟩ := h4 (by omega)
  exact ⟨_, _, _, e1, Kd.R_nil _ _ _ _ _, Kd.N_mono e2 (fun k hk => ⟨hk, by simp [Value.ownBlock]⟩), e3⟩
end Go.Proofs.Ytaibnbhgjnddnaa.P
