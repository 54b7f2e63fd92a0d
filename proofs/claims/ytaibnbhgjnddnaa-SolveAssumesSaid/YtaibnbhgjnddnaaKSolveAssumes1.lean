import Derived.Test.YtaibnbhgjnddnaaKSolveAssumesW
import Derived.Test.YtaibnbhgjnddnaaProg
import Derived.Below
import Derived.Deep.Draws
import Derived.Deep.AppendLies
import Derived.Maps.AppendAt
import Derived.OwnWalk
import Derived.Laws.BytesArg
import Derived.Laws.MakeOwn
import Derived.Laws.OwnMore
import Derived.Deep.OwnRows
import Derived.Tactics
import Derived.Lib.ConvBytes
import Derived.Laws.Slices
import Derived.WalkKit
import Derived.KernelRfl
import Derived.RowKit3
import Derived.Deep.LoopGhost
import Derived.Deep.QuietTactic
import Derived.BigQuiet
import Derived.WideLaws
import Derived.Deep.DeepCutAuto
import Derived.Deep.CutBlock
import Derived.Deep.RegionHeld3
import Derived.Laws.Rows
import Derived.Lib.AppendStr
import Derived.ArgAppend
import Derived.Laws.IdiomCopy
import Derived.OrdersHeld
import Derived.Laws.BitsLemmas
import Derived.RowKit
import Derived.Lib.SliceRun
import Derived.Deep.RegionLaw
import Derived.Shelf.RegionOpenPlain
import Derived.Maps.OwnSet
import Derived.Maps.OwnOps
import Derived.Maps.Views
namespace Go.Proofs.Ytaibnbhgjnddnaa.P
open Go.RowKit Go.Proofs.YtaibnbhgjnddnaaW.PrintWords Go.Proofs.YtaibnbhgjnddnaaW.PrintLast Go.Proofs.YtaibnbhgjnddnaaW.PrintMore
attribute [local go_sem] max2_int min2_int max_two min_two max_three min_three max_four min_four
set_option linter.unusedVariables false
set_option linter.unusedSimpArgs false
def errW : Option Int → Value
  | none => .nilIface
  | some c => .iface 0 (.int .i64 c)
theorem errW_none : errW none = .nilIface := rfl
theorem errW_some (c : Int) : errW (some c) = .iface 0 (.int .i64 c) := rfl
theorem info3 : (Try.prog.info? 3).map (fun i => (i.zero, i.size, i.bytes)) = some (some (.int .i64 0), 1, 8) := by kernel_rfl
theorem info4 : (Try.prog.info? 4).map (fun i => (i.zero, i.size, i.bytes)) = some (some (.bool false), 1, 1) := by kernel_rfl
theorem info25 : (Try.prog.info? 25).map (fun i => (i.zero, i.size, i.bytes)) = some (some (.slice none 0 0), 1, 24) := by kernel_rfl
def rd_L3 (xs : List (List Int)) (i : Int) : (List Int) := xs.getD i.toNat ([] : List Int)
theorem at_L3 {w : World} {A : Option Addr} {n : Nat} {xs : List (List Int)} (h : Kd.C (Kd.slice 3 (Kd.int .i64)) w A n xs) (i : Int) (h0 : 0 ≤ i) (h1 : i < n) : ∃ ad A0 c0, A = some ad ∧ w.cell? (ad.add i.toNat) = some (.slice A0 (rd_L3 xs i).length c0) ∧ (rd_L3 xs i).length ≤ c0 ∧ (Kd.int .i64).C w A0 (rd_L3 xs i).length (rd_L3 xs i) := by
  obtain ⟨ad, c, e, _, hK, hc0⟩ := Kd.C_get h ([] : List Int) i h0 h1
  have hc : ∀ j u, c[j]? = some u → w.cell? (ad.add (i.toNat * 1 + j)) = some u := hc0
  obtain ⟨A0, c0, rfl, l0, g0⟩ := hK
  exact ⟨ad, A0, c0, e, by have hq := hc 0 _ rfl; rwa [Nat.mul_one, Nat.add_zero] at hq, l0, g0⟩
structure S64 where
  f0 : Bool
  f1 : (List Int)
def z64 : S64 := ⟨false, ([] : List Int)⟩
def k64 : Kd S64 := Kd.iso (Kd.pair Kd.bool (Kd.slice 3 (Kd.int .i64))) (fun x : S64 => (x.f0, x.f1))
theorem k64_heap : Kd.Heap k64 := Kd.heap_iso _ (Kd.heap_pair Kd.heap_bool (Kd.heap_slice 3 (Kd.heap_int .i64)))
theorem k64_open {w : World} {x : S64} {cs : List Value} (h : k64.K w x cs) : ∃ A1 c1, cs = [.bool x.f0, .slice A1 x.f1.length c1] ∧ x.f1.length ≤ c1 ∧ (Kd.int .i64).C w A1 x.f1.length x.f1 := by
  obtain ⟨_, _, rfl, rfl, ⟨A1, c1, rfl, l1, g1⟩⟩ := h
  exact ⟨A1, c1, rfl, l1, g1⟩
theorem k64_mk (w : World) (x : S64) {A1 : Option Addr} {c1 : Nat} (l1 : x.f1.length ≤ c1) (g1 : (Kd.int .i64).C w A1 x.f1.length x.f1) : k64.K w x [.bool x.f0, .slice A1 x.f1.length c1] := ⟨[.bool x.f0], [.slice A1 x.f1.length c1], rfl, rfl, ⟨A1, c1, rfl, l1, g1⟩⟩
theorem k64_openF {W : World} {ok : Nat → Prop} {x : S64} {cs : List Value} (h : Kd.FK k64 W ok x cs) : ∃ A1 c1, cs = [.bool x.f0, .slice A1 x.f1.length c1] ∧ x.f1.length ≤ c1 ∧ Kd.F (Kd.int .i64) W ok A1 x.f1.length x.f1 := by
  obtain ⟨A1, c1, rfl, l1, _⟩ := k64_open (Kd.FK_now h)
  exact ⟨A1, c1, rfl, l1, (fun W' hW => by obtain ⟨A1_, c1_, he, l1_, g1_⟩ := k64_open (h W' hW); injection (zqv (show some (Value.slice A1 x.f1.length c1) = some (Value.slice A1_ x.f1.length c1_) from congrArg (fun l => l[1]?) he)) with ha_ _ _; rw [ha_]; exact g1_)⟩
theorem k64_mkF (W : World) (ok : Nat → Prop) (x : S64) {A1 : Option Addr} {c1 : Nat} (l1 : x.f1.length ≤ c1) (g1 : Kd.F (Kd.int .i64) W ok A1 x.f1.length x.f1) : Kd.FK k64 W ok x [.bool x.f0, .slice A1 x.f1.length c1] := fun W2 hW => k64_mk W2 x l1 (g1 W2 hW)
def rd_T64 (xs : List S64) (i : Int) : S64 := xs.getD i.toNat z64
theorem at_T64 {w : World} {A : Option Addr} {n : Nat} {xs : List S64} (h : Kd.C k64 w A n xs) (i : Int) (h0 : 0 ≤ i) (h1 : i < n) : ∃ ad A1 c1, A = some ad ∧ w.cell? (ad.add (i.toNat * 2)) = some (.bool (rd_T64 xs i).f0) ∧ w.cell? ⟨(ad.add (i.toNat * 2)).block, (ad.add (i.toNat * 2)).off + 1, none⟩ = some (.slice A1 (rd_T64 xs i).f1.length c1) ∧ (rd_T64 xs i).f1.length ≤ c1 ∧ (Kd.int .i64).C w A1 (rd_T64 xs i).f1.length (rd_T64 xs i).f1 := by
  obtain ⟨ad, c, e, _, hK, hc0⟩ := Kd.C_get h z64 i h0 h1
  have hc : ∀ j u, c[j]? = some u → w.cell? (ad.add (i.toNat * 2 + j)) = some u := hc0
  obtain ⟨A1, c1, rfl, l1, g1⟩ := k64_open hK
  exact ⟨ad, A1, c1, e, hc 0 _ rfl, by rw [← add_field _ _ 1 (by omega)]; exact hc 1 _ rfl, l1, g1⟩
def sequiturref19_Clause.l0 : Nat → List Int → Int → Int → Option (Int)
  | 0, _, _, _ => none
  | k + 1, x0, x1, x5 => if x5 < (x0.length : Int) then (if 0 ≤ x5 then (if (rd x0 x5) = 0 then (some 1) else (if (rd x0 x5) > x1 then (some 1) else (if (rd x0 x5) < (wrap64 (-x1)) then (some 1) else (sequiturref19_Clause.l0 k x0 x1 (wrap64 (x5 + 1)))))) else (none)) else (some 0)
def sequiturref19_Clause.f (k : Nat) (l0 : List Int) (a1 : Int) : Option (Int) := if (l0.length : Int) > 64 then (some 2) else (sequiturref19_Clause.l0 k l0 a1 0)
set_option maxHeartbeats 8000000 in
set_option maxRecDepth 100000 in
theorem sequiturref19_Clause.calls (k : Nat) (A0 : Option Addr) (c0 : Nat) (l0 : List Int) (a1 : Int) (r : Int) (w : World) (hr0 : Kd.C (Kd.int .i64) w A0 l0.length l0) (hc0 : l0.length ≤ c0) (h : sequiturref19_Clause.f k l0 a1 = some r) :
    Calls Try.prog 10 #[.slice A0 l0.length c0, .int .i64 a1] w fun e w' => e = .returned (.int .i64 r) ∧ Drawn0 w w' := by
  have HR0 := K0 hr0
  have HC0 := K0 hc0
  clear hr0 hc0
  have H : (if (l0.length : Int) > 64 then (some 2) else (sequiturref19_Clause.l0 k l0 a1 0)) = some r := h
  clear h
  by_cases c3 : (l0.length : Int) > 64
  · rw [if_pos c3] at H
    have c3b0 : decide (64 < (l0.length : Int)) = true := zqt c3
    have c3b1 : decide (64 < l0.length) = true := zqt (by omega)
    clear c3
    as_aux_lemma =>
      obtain rfl := zqv H
      go_enter Try.func10, Try.ntmps10
      go_wp2
      go_ret
      exact ⟨by first | rfl | (simp; done) | (simp [*]; done), by repeat (first | exact Drawn0.refl _ | apply Drawn0.step)⟩
  · rw [if_neg c3] at H
    have c3b0 : decide (64 < (l0.length : Int)) = false := zqu c3
    have c3b1 : decide (64 < l0.length) = false := zqu (by omega)
    clear c3
    have H' := K0 H
    clear H
    go_enter Try.func10, Try.ntmps10
    go_wp2
    go_loopg [5] k (fun kq v5 w' => ∃ (x5_1 : Int), v5 = .int .i64 x5_1 ∧ Aside0 (sequiturref19_Clause.l0 kq l0 a1 x5_1 = some r) ∧ Aside0 (kq ≤ k) ∧ Drawn0 w w')
    case atStart => exact ⟨(0), (by first | rfl | (simp; done) | (simp [*]; done)), H', ⟨zqx _⟩, by repeat (first | exact Drawn0.refl _ | apply Drawn0.step)⟩
    case round =>
      clear H'
      try clear c1
      try clear p2
      try clear c3
      try clear c3b0
      try clear c3b1
      obtain ⟨x5_1, rfl, HA, HK1, ⟨m1, rfl⟩⟩ := hrel
      cases gk with
      | zero => exact absurd HA.out (by simp [sequiturref19_Clause.l0])
      | succ k1 =>
        have H := HA.out
        clear HA
        simp only [sequiturref19_Clause.l0] at H
        by_cases c4 : x5_1 < (l0.length : Int)
        · rw [if_pos c4] at H
          have c4b0 : decide (x5_1 < (l0.length : Int)) = true := zqt c4
          clear c4
          by_cases c5 : 0 ≤ x5_1
          · rw [if_pos c5] at H
            have c5b0 : decide (0 ≤ x5_1) = true := zqt c5
            clear c5
            by_cases c6 : (rd l0 x5_1) = 0
            · rw [if_pos c6] at H
              have c6b0 : ((rd l0 x5_1) == 0) = true := beq_iff_eq.mpr c6
              have c6b1 : ((rd l0 x5_1) != 0) = false := bne_eq_false_iff_eq.mpr c6
              clear c6
              as_aux_lemma =>
                obtain rfl := zqv H
                have p101 : 0 ≤ (x5_1 : Int) := zqe (by first | (with_reducible assumption) | assumption)
                have q101 : x5_1 < (l0.length : Int) := zqe (by first | (with_reducible assumption) | assumption)
                obtain ⟨ad101, e101, hx101_0⟩ := Kd.at_int HR0.out x5_1 p101 q101
                cases e101
                replace p101 := eq_true p101
                replace q101 := eq_true q101
                go_wp2
                go_ret
                exact ⟨by first | rfl | (simp; done) | (simp [*]; done), by repeat (first | exact Drawn0.refl _ | apply Drawn0.step)⟩
            · rw [if_neg c6] at H
              have c6b0 : ((rd l0 x5_1) == 0) = false := beq_eq_false_iff_ne.mpr c6
              have c6b1 : ((rd l0 x5_1) != 0) = true := bne_iff_ne.mpr c6
              by_cases c7 : (rd l0 x5_1) > a1
              · rw [if_pos c7] at H
                have c7b0 : decide (a1 < (rd l0 x5_1)) = true := zqt c7
                clear c7
                as_aux_lemma =>
                  obtain rfl := zqv H
                  have p101 : 0 ≤ (x5_1 : Int) := zqe (by first | (with_reducible assumption) | assumption)
                  have q101 : x5_1 < (l0.length : Int) := zqe (by first | (with_reducible assumption) | assumption)
                  obtain ⟨ad101, e101, hx101_0⟩ := Kd.at_int HR0.out x5_1 p101 q101
                  cases e101
                  replace p101 := eq_true p101
                  replace q101 := eq_true q101
                  have p102 : 0 ≤ (x5_1 : Int) := zqe (by first | (with_reducible assumption) | assumption)
                  have q102 : x5_1 < (l0.length : Int) := zqe (by first | (with_reducible assumption) | assumption)
                  obtain ⟨ad102, e102, hx102_0⟩ := Kd.at_int HR0.out x5_1 p102 q102
                  obtain rfl : ad101 = ad102 := (by injection e102)
                  replace p102 := eq_true p102
                  replace q102 := eq_true q102
                  go_wp2
                  go_ret
                  exact ⟨by first | rfl | (simp; done) | (simp [*]; done), by repeat (first | exact Drawn0.refl _ | apply Drawn0.step)⟩
              · rw [if_neg c7] at H
                have c7b0 : decide (a1 < (rd l0 x5_1)) = false := zqu c7
                clear c7
                by_cases c8 : (rd l0 x5_1) < (wrap64 (-a1))
                · rw [if_pos c8] at H
                  have c8b0 : decide ((rd l0 x5_1) < (wrap64 (-a1))) = true := zqt c8
                  clear c8
                  as_aux_lemma =>
                    obtain rfl := zqv H
                    have p101 : 0 ≤ (x5_1 : Int) := zqe (by first | (with_reducible assumption) | assumption)
                    have q101 : x5_1 < (l0.length : Int) := zqe (by first | (with_reducible assumption) | assumption)
                    obtain ⟨ad101, e101, hx101_0⟩ := Kd.at_int HR0.out x5_1 p101 q101
                    cases e101
                    replace p101 := eq_true p101
                    replace q101 := eq_true q101
                    have p102 : 0 ≤ (x5_1 : Int) := zqe (by first | (with_reducible assumption) | assumption)
                    have q102 : x5_1 < (l0.length : Int) := zqe (by first | (with_reducible assumption) | assumption)
                    obtain ⟨ad102, e102, hx102_0⟩ := Kd.at_int HR0.out x5_1 p102 q102
                    obtain rfl : ad101 = ad102 := (by injection e102)
                    replace p102 := eq_true p102
                    replace q102 := eq_true q102
                    have p103 : 0 ≤ (x5_1 : Int) := zqe (by first | (with_reducible assumption) | assumption)
                    have q103 : x5_1 < (l0.length : Int) := zqe (by first | (with_reducible assumption) | assumption)
                    obtain ⟨ad103, e103, hx103_0⟩ := Kd.at_int HR0.out x5_1 p103 q103
                    obtain rfl : ad101 = ad103 := (by injection e103)
                    replace p103 := eq_true p103
                    replace q103 := eq_true q103
                    go_wp2
                    go_ret
                    exact ⟨by first | rfl | (simp; done) | (simp [*]; done), by repeat (first | exact Drawn0.refl _ | apply Drawn0.step)⟩
                · rw [if_neg c8] at H
                  have c8b0 : decide ((rd l0 x5_1) < (wrap64 (-a1))) = false := zqu c8
                  clear c8
                  as_aux_lemma =>
                    have H' := K0 H
                    clear H
                    have p101 : 0 ≤ (x5_1 : Int) := zqe (by first | (with_reducible assumption) | assumption)
                    have q101 : x5_1 < (l0.length : Int) := zqe (by first | (with_reducible assumption) | assumption)
                    obtain ⟨ad101, e101, hx101_0⟩ := Kd.at_int HR0.out x5_1 p101 q101
                    cases e101
                    replace p101 := eq_true p101
                    replace q101 := eq_true q101
                    have p102 : 0 ≤ (x5_1 : Int) := zqe (by first | (with_reducible assumption) | assumption)
                    have q102 : x5_1 < (l0.length : Int) := zqe (by first | (with_reducible assumption) | assumption)
                    obtain ⟨ad102, e102, hx102_0⟩ := Kd.at_int HR0.out x5_1 p102 q102
                    obtain rfl : ad101 = ad102 := (by injection e102)
                    replace p102 := eq_true p102
                    replace q102 := eq_true q102
                    have p103 : 0 ≤ (x5_1 : Int) := zqe (by first | (with_reducible assumption) | assumption)
                    have q103 : x5_1 < (l0.length : Int) := zqe (by first | (with_reducible assumption) | assumption)
                    obtain ⟨ad103, e103, hx103_0⟩ := Kd.at_int HR0.out x5_1 p103 q103
                    obtain rfl : ad101 = ad103 := (by injection e103)
                    replace p103 := eq_true p103
                    replace q103 := eq_true q103
                    go_wp2
                    go_roundg k1
                    case measure => have := HK1.out; omega
                    case rel => exact ⟨(wrap64 (x5_1 + 1)), (by first | rfl | (simp; done) | (simp [*]; done)), H', ⟨by have := HK1.out; omega⟩, by repeat (first | exact Drawn0.refl _ | apply Drawn0.step)⟩
          · rw [if_neg c5] at H
            exact absurd H (by simp)
        · rw [if_neg c4] at H
          have c4b0 : decide (x5_1 < (l0.length : Int)) = false := zqu c4
          clear c4
          as_aux_lemma =>
            obtain rfl := zqv H
            go_wp2
            go_ret
            exact ⟨by first | rfl | (simp; done) | (simp [*]; done), by repeat (first | exact Drawn0.refl _ | apply Drawn0.step)⟩
mutual
def sequiturref19_Right.j0 : Nat → Bool → Int → List (List Int) → Option (Int)
  | 0, _, _, _ => none
  | k + 1, x12, x105000, x105001 => if x12 = true then (some 1) else (if (x105001.length : Int) > 4096 then (some 2) else (sequiturref19_Right.l0 k 0 x105000 x105001))
def sequiturref19_Right.l0 : Nat → Int → Int → List (List Int) → Option (Int)
  | 0, _, _, _ => none
  | k + 1, x3, x105000, x105001 => if x3 < (x105001.length : Int) then (if 0 ≤ x3 then ((sequiturref19_Clause.f k (rd_L3 x105001 x3) x105000).bind fun t106 => (if t106 = 0 then (sequiturref19_Right.l0 k (wrap64 (x3 + 1)) x105000 x105001) else (some t106))) else (none)) else (some 0)
end
def sequiturref19_Right.f (k : Nat) (a0_0 : Int) (l0_1 : List (List Int)) : Option (Int) := if a0_0 < 0 then (sequiturref19_Right.j0 k true a0_0 l0_1) else (sequiturref19_Right.j0 k (decide (a0_0 > 1024)) a0_0 l0_1)
set_option maxHeartbeats 8000000 in
set_option maxRecDepth 100000 in
theorem sequiturref19_Right.calls (k : Nat) (a0_0 : Int) (A0_1 : Option Addr) (c0_1 : Nat) (l0_1 : List (List Int)) (r : Int) (w : World) (hr0_1 : Kd.C (Kd.slice 3 (Kd.int .i64)) w A0_1 l0_1.length l0_1) (hc0_1 : l0_1.length ≤ c0_1) (h : sequiturref19_Right.f k a0_0 l0_1 = some r) :
    Calls Try.prog 21 #[.agg #[.int .i64 a0_0, .slice A0_1 l0_1.length c0_1]] w fun e w' => e = .returned (.int .i64 r) ∧ Below w.heap.size w w' := by
  have hu24 := Try.underlying24
  have HR0_1 := K0 hr0_1; have HC0_1 := K0 hc0_1; clear hr0_1 hc0_1
  have HB := K0 (zqw w.heap.size w)
  have H : (if a0_0 < 0 then (sequiturref19_Right.j0 k true a0_0 l0_1) else (sequiturref19_Right.j0 k (decide (a0_0 > 1024)) a0_0 l0_1)) = some r := h
  clear h; have HC2 := K0 H; clear H
  go_enter Try.func21, Try.ntmps21
  go_upto_region 1 with (first | ((with_reducible refine gate_dst (N := 1) rfl ?_); refine box_event ?hg (N := 1) ?hd (cs := #[.int .i64 a0_0, .slice A0_1 l0_1.length c0_1]) (t := 24) ?hr ?_; (case hd => rfl); (case hg => rfl); (case hr => first | (go_simp; done) | (go_simp; rfl)); intro gb104 hg w3 hbox hb; have n0_ := K0 (zqo (by repeat (first | (with_reducible first | exact HB.out | apply zqb | apply zqa | apply zqc) | exact HB.out)) hb); have n1_ := K0 (hbox); have n2_ := K0 ((by rw [hg]; exact (zqp (by repeat (first | (with_reducible first | exact HB.out | apply zqb | apply zqa | apply zqc) | exact HB.out))) : w.heap.size ≤ gb104)); have n3_ := K0 ((by rw [hg]; exact (zqp (by repeat (first | (with_reducible first | exact HB.out | apply zqb | apply zqa | apply zqc) | exact HB.out))) : w.heap.size ≤ gb104)); clear HB; have HB := n0_; have BK104 := n1_; have GW104 := n2_; have GE104 := n3_; clear n0_ n1_ n2_ n3_; clear hb hbox hg))
  repeat (go_quiet (first | ((with_reducible refine gate_dst (N := 1) rfl ?_); refine box_event ?hg (N := 1) ?hd (cs := #[.int .i64 a0_0, .slice A0_1 l0_1.length c0_1]) (t := 24) ?hr ?_; (case hd => rfl); (case hg => rfl); (case hr => first | (go_simp; done) | (go_simp; rfl)); intro gb104 hg w3 hbox hb; have n0_ := K0 (zqo (by repeat (first | (with_reducible first | exact HB.out | apply zqb | apply zqa | apply zqc) | exact HB.out)) hb); have n1_ := K0 (hbox); have n2_ := K0 ((by rw [hg]; exact (zqp (by repeat (first | (with_reducible first | exact HB.out | apply zqb | apply zqa | apply zqc) | exact HB.out))) : w.heap.size ≤ gb104)); have n3_ := K0 ((by rw [hg]; exact (zqp (by repeat (first | (with_reducible first | exact HB.out | apply zqb | apply zqa | apply zqc) | exact HB.out))) : w.heap.size ≤ gb104)); clear HB; have HB := n0_; have BK104 := n1_; have GW104 := n2_; have GE104 := n3_; clear n0_ n1_ n2_ n3_; clear hb hbox hg)); go_upto_region 1 with (first | ((with_reducible refine gate_dst (N := 1) rfl ?_); refine box_event ?hg (N := 1) ?hd (cs := #[.int .i64 a0_0, .slice A0_1 l0_1.length c0_1]) (t := 24) ?hr ?_; (case hd => rfl); (case hg => rfl); (case hr => first | (go_simp; done) | (go_simp; rfl)); intro gb104 hg w3 hbox hb; have n0_ := K0 (zqo (by repeat (first | (with_reducible first | exact HB.out | apply zqb | apply zqa | apply zqc) | exact HB.out)) hb); have n1_ := K0 (hbox); have n2_ := K0 ((by rw [hg]; exact (zqp (by repeat (first | (with_reducible first | exact HB.out | apply zqb | apply zqa | apply zqc) | exact HB.out))) : w.heap.size ≤ gb104)); have n3_ := K0 ((by rw [hg]; exact (zqp (by repeat (first | (with_reducible first | exact HB.out | apply zqb | apply zqa | apply zqc) | exact HB.out))) : w.heap.size ≤ gb104)); clear HB; have HB := n0_; have BK104 := n1_; have GW104 := n2_; have GE104 := n3_; clear n0_ n1_ n2_ n3_; clear hb hbox hg)))
  (try simp only [Act.put, zqf, zqg, zqh])
  go_cut [12] (fun v12 wc => ∃ (kq : Nat) (x12_1 : Bool), v12 = .bool x12_1 ∧ Aside0 (sequiturref19_Right.j0 kq x12_1 a0_0 l0_1 = some r) ∧ Aside0 (kq ≤ k) ∧ Aside0 (wc.heap[gb104]? = some (.cells #[.int .i64 a0_0, (.slice A0_1 l0_1.length c0_1)] 24 (0, 0))) ∧ Aside0 (Below w.heap.size w wc))
  case first =>
    have H := HC2.out
    clear HC2
    by_cases c4 : a0_0 < 0
    case pos =>
      rw [if_pos c4] at H
      have c4b0 : decide (a0_0 < 0) = true := zqt c4
      clear c4
      (first | rw [c4b0] | (simp only [i64_w, i32_w]; rw [c4b0]) | skip)
      as_aux_lemma =>
        have H' := K0 H
        clear H
        have hcz5_0 : w3.cell? ⟨gb104, 0, none⟩ = some (.int .i64 a0_0) := (zql BK104.out 0).trans rfl
        have hcz5_1 : w3.cell? ⟨gb104, 1, none⟩ = some (.slice A0_1 l0_1.length c0_1) := (zql BK104.out 1).trans rfl
        have hfz5_0 := zqm BK104.out 0; have hfz5_1 := zqm BK104.out 1
        go_wp2
        repeat (go_quiet (fail); try go_wp2)
        go_meet
        case rel => exact ⟨_, (true), (by first | rfl | (simp; done) | (simp [*]; done)), H', ⟨by first | omega | exact zqx _⟩, ⟨by (with_reducible repeat (first | refine zqj ?_ _ | refine zqk ?_ | refine zqi ?_ _)); exact BK104.out⟩, ⟨by repeat (first | (with_reducible first | exact HB.out | apply zqb | apply zqa | apply zqc | refine zqd ?_ GE104.out) | exact HB.out)⟩⟩
    rw [if_neg c4] at H
    have c4b0 : decide (a0_0 < 0) = false := zqu c4
    clear c4
    (first | rw [c4b0] | (simp only [i64_w, i32_w]; rw [c4b0]) | skip)
    as_aux_lemma =>
      have H' := K0 H
      clear H
      have hcz6_0 : w3.cell? ⟨gb104, 0, none⟩ = some (.int .i64 a0_0) := (zql BK104.out 0).trans rfl
      have hcz6_1 : w3.cell? ⟨gb104, 1, none⟩ = some (.slice A0_1 l0_1.length c0_1) := (zql BK104.out 1).trans rfl
      have hfz6_0 := zqm BK104.out 0; have hfz6_1 := zqm BK104.out 1
      go_wp2
      repeat (go_quiet (fail); try go_wp2)
      go_meet
      case rel => exact ⟨_, (decide (a0_0 > 1024)), (by first | rfl | (simp; done) | (simp [*]; done)), H', ⟨by first | omega | exact zqx _⟩, ⟨by (with_reducible repeat (first | refine zqj ?_ _ | refine zqk ?_ | refine zqi ?_ _)); exact BK104.out⟩, ⟨by repeat (first | (with_reducible first | exact HB.out | apply zqb | apply zqa | apply zqc | refine zqd ?_ GE104.out) | exact HB.out)⟩⟩
  case rest =>
    clear HC2; try clear c2; try clear p2; try clear c4; try clear c4b0; try clear hcz5_0; try clear hcz5_1; try clear hcz6_0; try clear hcz6_1; try clear hfz5_0; try clear hfz5_1; try clear hfz6_0; try clear hfz6_1
    obtain ⟨kq, x12_1, rfl, HA, HJ1, BK104, HB⟩ := hcut
    cases kq with
    | zero => exact absurd HA.out (by simp [sequiturref19_Right.j0])
    | succ kj1 =>
      have H := HA.out
      clear HA
      simp only [sequiturref19_Right.j0] at H
      by_cases c7 : x12_1 = true
      case pos =>
        subst c7
        have H1 : (some 1) = some r := by rw [if_pos rfl] at H; exact H
        clear H
        have H := H1
        clear H1
        as_aux_lemma =>
          obtain rfl := zqv H
          go_wp2
          repeat (go_quiet (fail); try go_wp2)
          go_ret
          exact ⟨by first | rfl | (simp [errW_none, errW_some] <;> rfl) | (simp [*, errW_none, errW_some] <;> rfl), by repeat (first | (with_reducible first | exact HB.out | apply zqb | apply zqa | apply zqc | refine zqd ?_ GE104.out) | exact HB.out)⟩
      replace c7 := Bool.eq_false_iff.mpr c7
      subst c7
      have H1 : (if (l0_1.length : Int) > 4096 then (some 2) else (sequiturref19_Right.l0 kj1 0 a0_0 l0_1)) = some r := by rw [if_neg (show ¬ (false = true) by decide)] at H; exact H
      clear H
      have H := H1
      clear H1
      by_cases c8 : (l0_1.length : Int) > 4096
      case pos =>
        rw [if_pos c8] at H
        have c8b0 : decide (4096 < (l0_1.length : Int)) = true := zqt c8
        have c8b1 : decide (4096 < l0_1.length) = true := zqt (by omega)
        clear c8
        as_aux_lemma =>
          obtain rfl := zqv H
          have hcz9_0 : wc.cell? ⟨gb104, 0, none⟩ = some (.int .i64 a0_0) := (zql BK104.out 0).trans rfl
          have hcz9_1 : wc.cell? ⟨gb104, 1, none⟩ = some (.slice A0_1 l0_1.length c0_1) := (zql BK104.out 1).trans rfl
          have hfz9_0 := zqm BK104.out 0; have hfz9_1 := zqm BK104.out 1
          go_wp2
          repeat (go_quiet (fail); try go_wp2)
          go_ret
          exact ⟨by first | rfl | (simp [errW_none, errW_some] <;> rfl) | (simp [*, errW_none, errW_some] <;> rfl), by repeat (first | (with_reducible first | exact HB.out | apply zqb | apply zqa | apply zqc | refine zqd ?_ GE104.out) | exact HB.out)⟩
      rw [if_neg c8] at H
      have c8b0 : decide (4096 < (l0_1.length : Int)) = false := zqu c8
      have c8b1 : decide (4096 < l0_1.length) = false := zqu (by omega)
      clear c8
      have H' := K0 H
      clear H
      have hcz10_0 : wc.cell? ⟨gb104, 0, none⟩ = some (.int .i64 a0_0) := (zql BK104.out 0).trans rfl
      have hcz10_1 : wc.cell? ⟨gb104, 1, none⟩ = some (.slice A0_1 l0_1.length c0_1) := (zql BK104.out 1).trans rfl
      have hfz10_0 := zqm BK104.out 0; have hfz10_1 := zqm BK104.out 1
      go_wp2
      repeat (go_quiet (fail); try go_wp2)
      go_loopg [3] kj1 (fun kq v3 w' => ∃ (x3_2 : Int), v3 = .int .i64 x3_2 ∧ Aside0 (sequiturref19_Right.l0 kq x3_2 a0_0 l0_1 = some r) ∧ Aside0 (kq ≤ kj1) ∧ Aside0 (w'.heap[gb104]? = some (.cells #[.int .i64 a0_0, (.slice A0_1 l0_1.length c0_1)] 24 (0, 0))) ∧ Aside0 (Below w.heap.size w w'))
      case atStart => exact ⟨(0), (by first | rfl | (simp; done) | (simp [*]; done)), H', ⟨zqx _⟩, ⟨by (with_reducible repeat (first | refine zqj ?_ _ | refine zqk ?_ | refine zqi ?_ _)); exact BK104.out⟩, ⟨by repeat (first | (with_reducible first | exact HB.out | apply zqb | apply zqa | apply zqc | refine zqd ?_ GE104.out) | exact HB.out)⟩⟩
      case round =>
        clear H'; try clear c2; try clear p2; try clear c4; try clear c4b0; try clear c7; try clear c8; try clear c8b0; try clear c8b1; try clear hcz10_0; try clear hcz10_1; try clear hcz5_0; try clear hcz5_1; try clear hcz6_0; try clear hcz6_1; try clear hcz9_0; try clear hcz9_1; try clear hfz10_0; try clear hfz10_1; try clear hfz5_0; try clear hfz5_1; try clear hfz6_0; try clear hfz6_1; try clear hfz9_0; try clear hfz9_1; try clear p2
        obtain ⟨x3_2, rfl, HA, HK2, BK104, HB⟩ := hrel
        cases gk with
        | zero => exact absurd HA.out (by simp [sequiturref19_Right.l0])
        | succ k2 =>
          have H := HA.out
          clear HA
          simp only [sequiturref19_Right.l0] at H
          by_cases c11 : x3_2 < (l0_1.length : Int)
          case neg =>
            rw [if_neg c11] at H
            have c11b0 : decide (x3_2 < (l0_1.length : Int)) = false := zqu c11
            clear c11
            as_aux_lemma =>
              obtain rfl := zqv H
              have hcz17_0 : wr.cell? ⟨gb104, 0, none⟩ = some (.int .i64 a0_0) := (zql BK104.out 0).trans rfl
              have hcz17_1 : wr.cell? ⟨gb104, 1, none⟩ = some (.slice A0_1 l0_1.length c0_1) := (zql BK104.out 1).trans rfl
              have hfz17_0 := zqm BK104.out 0; have hfz17_1 := zqm BK104.out 1
              go_wp2
              repeat (go_quiet (fail); try go_wp2)
              go_ret
              exact ⟨by first | rfl | (simp [errW_none, errW_some] <;> rfl) | (simp [*, errW_none, errW_some] <;> rfl), by repeat (first | (with_reducible first | exact HB.out | apply zqb | apply zqa | apply zqc | refine zqd ?_ GE104.out) | exact HB.out)⟩
          rw [if_pos c11] at H
          have c11b0 : decide (x3_2 < (l0_1.length : Int)) = true := zqt c11
          clear c11
          by_cases c12 : 0 ≤ x3_2
          case neg =>
            rw [if_neg c12] at H
            exact absurd H (by simp)
          rw [if_pos c12] at H
          have c12b0 : decide (0 ≤ x3_2) = true := zqt c12
          clear c12
          replace H := Option.bind_eq_some_iff.mp H
          obtain ⟨t106, A130, H⟩ := H
          replace H : (if t106 = 0 then (sequiturref19_Right.l0 k2 (wrap64 (x3_2 + 1)) a0_0 l0_1) else (some t106)) = some r := H
          have A13 := K0 A130; clear A130
          by_cases c14 : t106 = 0
          case neg =>
            rw [if_neg c14] at H
            have c14b0 : (t106 == 0) = false := beq_eq_false_iff_ne.mpr c14
            have c14b1 : (t106 != 0) = true := bne_iff_ne.mpr c14
            as_aux_lemma =>
              obtain rfl := zqv H
              have hcz16_0 : wr.cell? ⟨gb104, 0, none⟩ = some (.int .i64 a0_0) := (zql BK104.out 0).trans rfl
              have hcz16_1 : wr.cell? ⟨gb104, 1, none⟩ = some (.slice A0_1 l0_1.length c0_1) := (zql BK104.out 1).trans rfl
              have hfz16_0 := zqm BK104.out 0; have hfz16_1 := zqm BK104.out 1
              have p105 : 0 ≤ (x3_2 : Int) := zqe (by first | (with_reducible assumption) | assumption)
              have q105 : x3_2 < (l0_1.length : Int) := zqe (by first | (with_reducible assumption) | assumption)
              obtain ⟨ad105, A105_0, c105_0, e105, hx105_0, hl105_0, hi105_0⟩ := at_L3 HR0_1.out x3_2 p105 q105
              cases e105
              replace hx105_0 := (HB.out.cell (World.block_lt_of_cell? w _ hx105_0)).trans hx105_0
              have HR105_0 := K0 hi105_0; have HC105_0 := K0 hl105_0; clear hi105_0 hl105_0; replace p105 := eq_true p105; replace q105 := eq_true q105
              go_wp2_with (first | (go_at_call 10; (with_reducible refine (sequiturref19_Clause.calls k2 _ _ (rd_L3 l0_1 x3_2) a0_0 t106 _ ?side1 ?side2 A13.out).mono ?_); (case side1 => repeat (first | exact (Kd.C_below HR105_0.out HB.out) | (with_reducible refine Kd.C_alloc ?_ _) | (with_reducible refine Kd.C_drewN ?_ _) | (with_reducible refine Kd.C_drew ?_))); (case side2 => exact HC105_0.out); rintro e w' ⟨rfl, ⟨nd, rfl⟩⟩; (try first | exact ⟨rfl, _, World.drewN_drewN _ _ _⟩ | exact ⟨rfl, _, Eq.trans (World.drewN_drewN _ _ _) (congrArg (World.drewN _) (Nat.add_assoc _ _ _))⟩)))
              repeat (go_quiet (first | (go_at_call 10; (with_reducible refine (sequiturref19_Clause.calls k2 _ _ (rd_L3 l0_1 x3_2) a0_0 t106 _ ?side1 ?side2 A13.out).mono ?_); (case side1 => repeat (first | exact (Kd.C_below HR105_0.out HB.out) | (with_reducible refine Kd.C_alloc ?_ _) | (with_reducible refine Kd.C_drewN ?_ _) | (with_reducible refine Kd.C_drew ?_))); (case side2 => exact HC105_0.out); rintro e w' ⟨rfl, ⟨nd, rfl⟩⟩; (try first | exact ⟨rfl, _, World.drewN_drewN _ _ _⟩ | exact ⟨rfl, _, Eq.trans (World.drewN_drewN _ _ _) (congrArg (World.drewN _) (Nat.add_assoc _ _ _))⟩))); try go_wp2_with (first | (go_at_call 10; (with_reducible refine (sequiturref19_Clause.calls k2 _ _ (rd_L3 l0_1 x3_2) a0_0 t106 _ ?side1 ?side2 A13.out).mono ?_); (case side1 => repeat (first | exact (Kd.C_below HR105_0.out HB.out) | (with_reducible refine Kd.C_alloc ?_ _) | (with_reducible refine Kd.C_drewN ?_ _) | (with_reducible refine Kd.C_drew ?_))); (case side2 => exact HC105_0.out); rintro e w' ⟨rfl, ⟨nd, rfl⟩⟩; (try first | exact ⟨rfl, _, World.drewN_drewN _ _ _⟩ | exact ⟨rfl, _, Eq.trans (World.drewN_drewN _ _ _) (congrArg (World.drewN _) (Nat.add_assoc _ _ _))⟩))))
              go_ret
              exact ⟨by first | rfl | (simp [errW_none, errW_some] <;> rfl) | (simp [*, errW_none, errW_some] <;> rfl), by repeat (first | (with_reducible first | exact HB.out | apply zqb | apply zqa | apply zqc | refine zqd ?_ GE104.out) | exact HB.out)⟩
          rw [if_pos c14] at H
          have c14b0 : (t106 == 0) = true := beq_iff_eq.mpr c14
          have c14b1 : (t106 != 0) = false := bne_eq_false_iff_eq.mpr c14
          clear c14
          as_aux_lemma =>
            have H' := K0 H
            clear H
            have hcz15_0 : wr.cell? ⟨gb104, 0, none⟩ = some (.int .i64 a0_0) := (zql BK104.out 0).trans rfl
            have hcz15_1 : wr.cell? ⟨gb104, 1, none⟩ = some (.slice A0_1 l0_1.length c0_1) := (zql BK104.out 1).trans rfl
            have hfz15_0 := zqm BK104.out 0; have hfz15_1 := zqm BK104.out 1
            have p105 : 0 ≤ (x3_2 : Int) := zqe (by first | (with_reducible assumption) | assumption)
            have q105 : x3_2 < (l0_1.length : Int) := zqe (by first | (with_reducible assumption) | assumption)
            obtain ⟨ad105, A105_0, c105_0, e105, hx105_0, hl105_0, hi105_0⟩ := at_L3 HR0_1.out x3_2 p105 q105
            cases e105
            replace hx105_0 := (HB.out.cell (World.block_lt_of_cell? w _ hx105_0)).trans hx105_0
            have HR105_0 := K0 hi105_0; have HC105_0 := K0 hl105_0; clear hi105_0 hl105_0; replace p105 := eq_true p105; replace q105 := eq_true q105
            go_wp2_with (first | (go_at_call 10; (with_reducible refine (sequiturref19_Clause.calls k2 _ _ (rd_L3 l0_1 x3_2) a0_0 t106 _ ?side1 ?side2 A13.out).mono ?_); (case side1 => repeat (first | exact (Kd.C_below HR105_0.out HB.out) | (with_reducible refine Kd.C_alloc ?_ _) | (with_reducible refine Kd.C_drewN ?_ _) | (with_reducible refine Kd.C_drew ?_))); (case side2 => exact HC105_0.out); rintro e w' ⟨rfl, ⟨nd, rfl⟩⟩; (try first | exact ⟨rfl, _, World.drewN_drewN _ _ _⟩ | exact ⟨rfl, _, Eq.trans (World.drewN_drewN _ _ _) (congrArg (World.drewN _) (Nat.add_assoc _ _ _))⟩)))
            repeat (go_quiet (first | (go_at_call 10; (with_reducible refine (sequiturref19_Clause.calls k2 _ _ (rd_L3 l0_1 x3_2) a0_0 t106 _ ?side1 ?side2 A13.out).mono ?_); (case side1 => repeat (first | exact (Kd.C_below HR105_0.out HB.out) | (with_reducible refine Kd.C_alloc ?_ _) | (with_reducible refine Kd.C_drewN ?_ _) | (with_reducible refine Kd.C_drew ?_))); (case side2 => exact HC105_0.out); rintro e w' ⟨rfl, ⟨nd, rfl⟩⟩; (try first | exact ⟨rfl, _, World.drewN_drewN _ _ _⟩ | exact ⟨rfl, _, Eq.trans (World.drewN_drewN _ _ _) (congrArg (World.drewN _) (Nat.add_assoc _ _ _))⟩))); try go_wp2_with (first | (go_at_call 10; (with_reducible refine (sequiturref19_Clause.calls k2 _ _ (rd_L3 l0_1 x3_2) a0_0 t106 _ ?side1 ?side2 A13.out).mono ?_); (case side1 => repeat (first | exact (Kd.C_below HR105_0.out HB.out) | (with_reducible refine Kd.C_alloc ?_ _) | (with_reducible refine Kd.C_drewN ?_ _) | (with_reducible refine Kd.C_drew ?_))); (case side2 => exact HC105_0.out); rintro e w' ⟨rfl, ⟨nd, rfl⟩⟩; (try first | exact ⟨rfl, _, World.drewN_drewN _ _ _⟩ | exact ⟨rfl, _, Eq.trans (World.drewN_drewN _ _ _) (congrArg (World.drewN _) (Nat.add_assoc _ _ _))⟩))))
            go_roundg k2
            case measure => have := HJ1.out; have := HK2.out; omega
            case rel => exact ⟨(wrap64 (x3_2 + 1)), (by first | rfl | (simp; done) | (simp [*]; done)), H', ⟨by have := HJ1.out; have := HK2.out; omega⟩, ⟨by (with_reducible repeat (first | refine zqj ?_ _ | refine zqk ?_ | refine zqi ?_ _)); exact BK104.out⟩, ⟨by repeat (first | (with_reducible first | exact HB.out | apply zqb | apply zqa | apply zqc | refine zqd ?_ GE104.out) | exact HB.out)⟩⟩
def sequiturlaw22_few.f (k : Nat) (a0_0 : Int) (l0_1 : List (List Int)) : Option (Bool) := (sequiturref19_Right.f k a0_0 l0_1).bind fun t108 => (if t108 = 0 then (if a0_0 ≤ 8 then (some (decide ((l0_1.length : Int) ≤ 24))) else (some false)) else (some false))
set_option maxHeartbeats 8000000 in
set_option maxRecDepth 100000 in
theorem sequiturlaw22_few.calls (k : Nat) (a0_0 : Int) (A0_1 : Option Addr) (c0_1 : Nat) (l0_1 : List (List Int)) (r : Bool) (w : World) (hr0_1 : Kd.C (Kd.slice 3 (Kd.int .i64)) w A0_1 l0_1.length l0_1) (hc0_1 : l0_1.length ≤ c0_1) (h : sequiturlaw22_few.f k a0_0 l0_1 = some r) :
    Calls Try.prog 8 #[.agg #[.int .i64 a0_0, .slice A0_1 l0_1.length c0_1]] w fun e w' => e = .returned (.bool r) ∧ Below w.heap.size w w' := by
  have hu24 := Try.underlying24
  have HR0_1 := K0 hr0_1
  have HC0_1 := K0 hc0_1
  clear hr0_1 hc0_1
  have HB := K0 (zqw w.heap.size w)
  have H : ((sequiturref19_Right.f k a0_0 l0_1).bind fun t108 => (if t108 = 0 then (if a0_0 ≤ 8 then (some (decide ((l0_1.length : Int) ≤ 24))) else (some false)) else (some false))) = some r := h
  clear h
  replace H := Option.bind_eq_some_iff.mp H
  obtain ⟨t108, A20, H⟩ := H
  replace H : (if t108 = 0 then (if a0_0 ≤ 8 then (some (decide ((l0_1.length : Int) ≤ 24))) else (some false)) else (some false)) = some r := H
  have A2 := K0 A20
  clear A20
  by_cases c3 : t108 = 0
  · rw [if_pos c3] at H
    have c3b0 : (t108 == 0) = true := beq_iff_eq.mpr c3
    have c3b1 : (t108 != 0) = false := bne_eq_false_iff_eq.mpr c3
    clear c3
    by_cases c4 : a0_0 ≤ 8
    · rw [if_pos c4] at H
      have c4b0 : decide (a0_0 ≤ 8) = true := zqt c4
      clear c4
      as_aux_lemma =>
        obtain rfl := zqv H
        go_enter Try.func8, Try.ntmps8
        go_wp2_with (first | ((with_reducible refine gate_dst (N := 1) rfl ?_); (try (refine gate_guard (by rfl) ?_; dsimp only)); refine box_event ?hg (N := 1) ?hd (cs := #[.int .i64 a0_0, .slice A0_1 l0_1.length c0_1]) (t := 24) ?hr ?_; (case hd => rfl); (case hg => rfl); (case hr => first | (go_simp; done) | (go_simp; rfl)); intro gb107 hg w5 hbox hb; have n0_ := K0 (zqo (by repeat (first | (with_reducible first | exact HB.out | apply zqb | apply zqa | apply zqc) | exact HB.out)) hb); have n1_ := K0 (hbox); have n2_ := K0 ((by rw [hg]; exact (zqp (by repeat (first | (with_reducible first | exact HB.out | apply zqb | apply zqa | apply zqc) | exact HB.out))) : w.heap.size ≤ gb107)); have n3_ := K0 ((by rw [hg]; exact (zqp (by repeat (first | (with_reducible first | exact HB.out | apply zqb | apply zqa | apply zqc) | exact HB.out))) : w.heap.size ≤ gb107)); clear HB; have HB := n0_; have BK107 := n1_; have GW107 := n2_; have GE107 := n3_; clear n0_ n1_ n2_ n3_; clear hb hbox hg; have hcz6_0 : w5.cell? ⟨gb107, 0, none⟩ = some (.int .i64 a0_0) := (zql BK107.out 0).trans rfl; have hcz6_1 : w5.cell? ⟨gb107, 1, none⟩ = some (.slice A0_1 l0_1.length c0_1) := (zql BK107.out 1).trans rfl; have hfz6_0 := zqm BK107.out 0; have hfz6_1 := zqm BK107.out 1) | ((with_reducible refine gate_callee (f := 21) rfl ?_); refine goesL_ (some 4) rfl rfl Try.func21 (by kernel_rfl) rfl #[.agg #[.int .i64 a0_0, .slice A0_1 l0_1.length c0_1]] rfl (by (try simp only [List.map_toArray, List.map_cons, List.map_nil]); first | done | rfl | (simp only [zqq, zqr]; rfl)) ?_; (with_reducible refine (sequiturref19_Right.calls k a0_0 _ _ l0_1 t108 _ ?side1 ?side2 A2.out).mono ?_); (case side1 => repeat (first | exact (Kd.C_below HR0_1.out HB.out) | (with_reducible refine Kd.C_alloc ?_ _) | (with_reducible refine Kd.C_drewN ?_ _) | (with_reducible refine Kd.C_drew ?_))); (case side2 => exact HC0_1.out); rintro e w7 ⟨rfl, hb⟩; refine ⟨_, rfl, ?_⟩; have n0_ := K0 (zqn (g := gb107) (o := .cells #[.int .i64 a0_0, .slice A0_1 l0_1.length c0_1] 24 (0, 0)) (by (with_reducible repeat (first | refine zqj ?_ _ | refine zqk ?_ | refine zqi ?_ _)); exact BK107.out) hb); have n1_ := K0 (zqo (by repeat (first | (with_reducible first | exact HB.out | apply zqb | apply zqa | apply zqc | refine zqd ?_ GE107.out) | exact HB.out)) hb); clear BK107; clear HB; have BK107 := n0_; have HB := n1_; clear n0_ n1_; (try clear hb); (try clear hb2); (try clear hk); (try clear hi); have hcz8_0 : w7.cell? ⟨gb107, 0, none⟩ = some (.int .i64 a0_0) := (zql BK107.out 0).trans rfl; have hcz8_1 : w7.cell? ⟨gb107, 1, none⟩ = some (.slice A0_1 l0_1.length c0_1) := (zql BK107.out 1).trans rfl; have hfz8_0 := zqm BK107.out 0; have hfz8_1 := zqm BK107.out 1))
        go_ret
        exact ⟨by first | rfl | (simp [errW_none, errW_some] <;> rfl) | (simp [*, errW_none, errW_some] <;> rfl), by repeat (first | (with_reducible first | exact HB.out | apply zqb | apply zqa | apply zqc | refine zqd ?_ GE107.out) | exact HB.out)⟩
    · rw [if_neg c4] at H
      have c4b0 : decide (a0_0 ≤ 8) = false := zqu c4
      clear c4
      as_aux_lemma =>
        obtain rfl := zqv H
        go_enter Try.func8, Try.ntmps8
        go_wp2_with (first | ((with_reducible refine gate_dst (N := 1) rfl ?_); (try (refine gate_guard (by rfl) ?_; dsimp only)); refine box_event ?hg (N := 1) ?hd (cs := #[.int .i64 a0_0, .slice A0_1 l0_1.length c0_1]) (t := 24) ?hr ?_; (case hd => rfl); (case hg => rfl); (case hr => first | (go_simp; done) | (go_simp; rfl)); intro gb107 hg w9 hbox hb; have n0_ := K0 (zqo (by repeat (first | (with_reducible first | exact HB.out | apply zqb | apply zqa | apply zqc) | exact HB.out)) hb); have n1_ := K0 (hbox); have n2_ := K0 ((by rw [hg]; exact (zqp (by repeat (first | (with_reducible first | exact HB.out | apply zqb | apply zqa | apply zqc) | exact HB.out))) : w.heap.size ≤ gb107)); have n3_ := K0 ((by rw [hg]; exact (zqp (by repeat (first | (with_reducible first | exact HB.out | apply zqb | apply zqa | apply zqc) | exact HB.out))) : w.heap.size ≤ gb107)); clear HB; have HB := n0_; have BK107 := n1_; have GW107 := n2_; have GE107 := n3_; clear n0_ n1_ n2_ n3_; clear hb hbox hg; have hcz10_0 : w9.cell? ⟨gb107, 0, none⟩ = some (.int .i64 a0_0) := (zql BK107.out 0).trans rfl; have hcz10_1 : w9.cell? ⟨gb107, 1, none⟩ = some (.slice A0_1 l0_1.length c0_1) := (zql BK107.out 1).trans rfl; have hfz10_0 := zqm BK107.out 0; have hfz10_1 := zqm BK107.out 1) | ((with_reducible refine gate_callee (f := 21) rfl ?_); refine goesL_ (some 4) rfl rfl Try.func21 (by kernel_rfl) rfl #[.agg #[.int .i64 a0_0, .slice A0_1 l0_1.length c0_1]] rfl (by (try simp only [List.map_toArray, List.map_cons, List.map_nil]); first | done | rfl | (simp only [zqq, zqr]; rfl)) ?_; (with_reducible refine (sequiturref19_Right.calls k a0_0 _ _ l0_1 t108 _ ?side1 ?side2 A2.out).mono ?_); (case side1 => repeat (first | exact (Kd.C_below HR0_1.out HB.out) | (with_reducible refine Kd.C_alloc ?_ _) | (with_reducible refine Kd.C_drewN ?_ _) | (with_reducible refine Kd.C_drew ?_))); (case side2 => exact HC0_1.out); rintro e w11 ⟨rfl, hb⟩; refine ⟨_, rfl, ?_⟩; have n0_ := K0 (zqn (g := gb107) (o := .cells #[.int .i64 a0_0, .slice A0_1 l0_1.length c0_1] 24 (0, 0)) (by (with_reducible repeat (first | refine zqj ?_ _ | refine zqk ?_ | refine zqi ?_ _)); exact BK107.out) hb); have n1_ := K0 (zqo (by repeat (first | (with_reducible first | exact HB.out | apply zqb | apply zqa | apply zqc | refine zqd ?_ GE107.out) | exact HB.out)) hb); clear BK107; clear HB; have BK107 := n0_; have HB := n1_; clear n0_ n1_; (try clear hb); (try clear hb2); (try clear hk); (try clear hi); have hcz12_0 : w11.cell? ⟨gb107, 0, none⟩ = some (.int .i64 a0_0) := (zql BK107.out 0).trans rfl; have hcz12_1 : w11.cell? ⟨gb107, 1, none⟩ = some (.slice A0_1 l0_1.length c0_1) := (zql BK107.out 1).trans rfl; have hfz12_0 := zqm BK107.out 0; have hfz12_1 := zqm BK107.out 1))
        go_ret
        exact ⟨by first | rfl | (simp [errW_none, errW_some] <;> rfl) | (simp [*, errW_none, errW_some] <;> rfl), by repeat (first | (with_reducible first | exact HB.out | apply zqb | apply zqa | apply zqc | refine zqd ?_ GE107.out) | exact HB.out)⟩
  · rw [if_neg c3] at H
    have c3b0 : (t108 == 0) = false := beq_eq_false_iff_ne.mpr c3
    have c3b1 : (t108 != 0) = true := bne_iff_ne.mpr c3
    as_aux_lemma =>
      obtain rfl := zqv H
      go_enter Try.func8, Try.ntmps8
      go_wp2_with (first | ((with_reducible refine gate_dst (N := 1) rfl ?_); (try (refine gate_guard (by rfl) ?_; dsimp only)); refine box_event ?hg (N := 1) ?hd (cs := #[.int .i64 a0_0, .slice A0_1 l0_1.length c0_1]) (t := 24) ?hr ?_; (case hd => rfl); (case hg => rfl); (case hr => first | (go_simp; done) | (go_simp; rfl)); intro gb107 hg w13 hbox hb; have n0_ := K0 (zqo (by repeat (first | (with_reducible first | exact HB.out | apply zqb | apply zqa | apply zqc) | exact HB.out)) hb); have n1_ := K0 (hbox); have n2_ := K0 ((by rw [hg]; exact (zqp (by repeat (first | (with_reducible first | exact HB.out | apply zqb | apply zqa | apply zqc) | exact HB.out))) : w.heap.size ≤ gb107)); have n3_ := K0 ((by rw [hg]; exact (zqp (by repeat (first | (with_reducible first | exact HB.out | apply zqb | apply zqa | apply zqc) | exact HB.out))) : w.heap.size ≤ gb107)); clear HB; have HB := n0_; have BK107 := n1_; have GW107 := n2_; have GE107 := n3_; clear n0_ n1_ n2_ n3_; clear hb hbox hg; have hcz14_0 : w13.cell? ⟨gb107, 0, none⟩ = some (.int .i64 a0_0) := (zql BK107.out 0).trans rfl; have hcz14_1 : w13.cell? ⟨gb107, 1, none⟩ = some (.slice A0_1 l0_1.length c0_1) := (zql BK107.out 1).trans rfl; have hfz14_0 := zqm BK107.out 0; have hfz14_1 := zqm BK107.out 1) | ((with_reducible refine gate_callee (f := 21) rfl ?_); refine goesL_ (some 4) rfl rfl Try.func21 (by kernel_rfl) rfl #[.agg #[.int .i64 a0_0, .slice A0_1 l0_1.length c0_1]] rfl (by (try simp only [List.map_toArray, List.map_cons, List.map_nil]); first | done | rfl | (simp only [zqq, zqr]; rfl)) ?_; (with_reducible refine (sequiturref19_Right.calls k a0_0 _ _ l0_1 t108 _ ?side1 ?side2 A2.out).mono ?_); (case side1 => repeat (first | exact (Kd.C_below HR0_1.out HB.out) | (with_reducible refine Kd.C_alloc ?_ _) | (with_reducible refine Kd.C_drewN ?_ _) | (with_reducible refine Kd.C_drew ?_))); (case side2 => exact HC0_1.out); rintro e w15 ⟨rfl, hb⟩; refine ⟨_, rfl, ?_⟩; have n0_ := K0 (zqn (g := gb107) (o := .cells #[.int .i64 a0_0, .slice A0_1 l0_1.length c0_1] 24 (0, 0)) (by (with_reducible repeat (first | refine zqj ?_ _ | refine zqk ?_ | refine zqi ?_ _)); exact BK107.out) hb); have n1_ := K0 (zqo (by repeat (first | (with_reducible first | exact HB.out | apply zqb | apply zqa | apply zqc | refine zqd ?_ GE107.out) | exact HB.out)) hb); clear BK107; clear HB; have BK107 := n0_; have HB := n1_; clear n0_ n1_; (try clear hb); (try clear hb2); (try clear hk); (try clear hi)))
      go_ret
      exact ⟨by first | rfl | (simp [errW_none, errW_some] <;> rfl) | (simp [*, errW_none, errW_some] <;> rfl), by repeat (first | (with_reducible first | exact HB.out | apply zqb | apply zqa | apply zqc | refine zqd ?_ GE107.out) | exact HB.out)⟩
def sequiturlaw22_Small.l0 : Nat → Int → Int → Int → List (List Int) → Option (Bool)
  | 0, _, _, _, _ => none
  | k + 1, x3, x4, x110000, x110001 => if x4 < (x110001.length : Int) then (if x3 ≤ 600 then (if 0 ≤ x4 then (sequiturlaw22_Small.l0 k (wrap64 (x3 + ((rd_L3 x110001 x4).length : Int))) (wrap64 (x4 + 1)) x110000 x110001) else (none)) else (some (decide (x3 ≤ 600)))) else (some (decide (x3 ≤ 600)))
def sequiturlaw22_Small.f (k : Nat) (a0_0 : Int) (l0_1 : List (List Int)) : Option (Bool) := sequiturlaw22_Small.l0 k (l0_1.length : Int) 0 a0_0 l0_1
set_option maxHeartbeats 8000000 in
set_option maxRecDepth 100000 in
theorem sequiturlaw22_Small.calls (k : Nat) (a0_0 : Int) (A0_1 : Option Addr) (c0_1 : Nat) (l0_1 : List (List Int)) (r : Bool) (w : World) (hr0_1 : Kd.C (Kd.slice 3 (Kd.int .i64)) w A0_1 l0_1.length l0_1) (hc0_1 : l0_1.length ≤ c0_1) (h : sequiturlaw22_Small.f k a0_0 l0_1 = some r) :
    Calls Try.prog 9 #[.agg #[.int .i64 a0_0, .slice A0_1 l0_1.length c0_1]] w fun e w' => e = .returned (.bool r) ∧ Below w.heap.size w w' := by
  have hu24 := Try.underlying24
  have HR0_1 := K0 hr0_1
  have HC0_1 := K0 hc0_1
  clear hr0_1 hc0_1
  have HB := K0 (zqw w.heap.size w)
  have H : (sequiturlaw22_Small.l0 k (l0_1.length : Int) 0 a0_0 l0_1) = some r := h
  clear h
  have H' := K0 H
  clear H
  go_enter Try.func9, Try.ntmps9
  go_wp2_with (first | ((with_reducible refine gate_dst (N := 1) rfl ?_); refine box_event ?hg (N := 1) ?hd (cs := #[.int .i64 a0_0, .slice A0_1 l0_1.length c0_1]) (t := 24) ?hr ?_; (case hd => rfl); (case hg => rfl); (case hr => first | (go_simp; done) | (go_simp; rfl)); intro gb109 hg w2 hbox hb; have n0_ := K0 (zqo (by repeat (first | (with_reducible first | exact HB.out | apply zqb | apply zqa | apply zqc) | exact HB.out)) hb); have n1_ := K0 (hbox); have n2_ := K0 ((by rw [hg]; exact (zqp (by repeat (first | (with_reducible first | exact HB.out | apply zqb | apply zqa | apply zqc) | exact HB.out))) : w.heap.size ≤ gb109)); have n3_ := K0 ((by rw [hg]; exact (zqp (by repeat (first | (with_reducible first | exact HB.out | apply zqb | apply zqa | apply zqc) | exact HB.out))) : w.heap.size ≤ gb109)); clear HB; have HB := n0_; have BK109 := n1_; have GW109 := n2_; have GE109 := n3_; clear n0_ n1_ n2_ n3_; clear hb hbox hg; have hcz3_0 : w2.cell? ⟨gb109, 0, none⟩ = some (.int .i64 a0_0) := (zql BK109.out 0).trans rfl; have hcz3_1 : w2.cell? ⟨gb109, 1, none⟩ = some (.slice A0_1 l0_1.length c0_1) := (zql BK109.out 1).trans rfl; have hfz3_0 := zqm BK109.out 0; have hfz3_1 := zqm BK109.out 1))
  go_loopg [3, 4] k (fun kq v3 v4 w' => ∃ (x3_1 : Int) (x4_1 : Int), v3 = .int .i64 x3_1 ∧ v4 = .int .i64 x4_1 ∧ Aside0 (sequiturlaw22_Small.l0 kq x3_1 x4_1 a0_0 l0_1 = some r) ∧ Aside0 (kq ≤ k) ∧ Aside0 (w'.heap[gb109]? = some (.cells #[.int .i64 a0_0, (.slice A0_1 l0_1.length c0_1)] 24 (0, 0))) ∧ Aside0 (Below w.heap.size w w'))
  case atStart => exact ⟨((l0_1.length : Int)), (0), (by first | rfl | (simp; done) | (simp [*]; done)), (by first | rfl | (simp; done) | (simp [*]; done)), H', ⟨zqx _⟩, ⟨by (with_reducible repeat (first | refine zqj ?_ _ | refine zqk ?_ | refine zqi ?_ _)); exact BK109.out⟩, ⟨by repeat (first | (with_reducible first | exact HB.out | apply zqb | apply zqa | apply zqc | refine zqd ?_ GE109.out) | exact HB.out)⟩⟩
  case round =>
    clear H'
    try clear p2
    try clear hcz3_0
    try clear hcz3_1
    try clear hfz3_0
    try clear hfz3_1
    obtain ⟨x3_1, x4_1, rfl, rfl, HA, HK1, BK109, HB⟩ := hrel
    cases gk with
    | zero => exact absurd HA.out (by simp [sequiturlaw22_Small.l0])
    | succ k1 =>
      have H := HA.out
      clear HA
      simp only [sequiturlaw22_Small.l0] at H
      by_cases c4 : x4_1 < (l0_1.length : Int)
      · rw [if_pos c4] at H
        have c4b0 : decide (x4_1 < (l0_1.length : Int)) = true := zqt c4
        clear c4
        by_cases c5 : x3_1 ≤ 600
        · rw [if_pos c5] at H
          have c5b0 : decide (x3_1 ≤ 600) = true := zqt c5
          clear c5
          by_cases c6 : 0 ≤ x4_1
          · rw [if_pos c6] at H
            have c6b0 : decide (0 ≤ x4_1) = true := zqt c6
            clear c6
            as_aux_lemma =>
              have H' := K0 H
              clear H
              have hcz7_0 : wr.cell? ⟨gb109, 0, none⟩ = some (.int .i64 a0_0) := (zql BK109.out 0).trans rfl
              have hcz7_1 : wr.cell? ⟨gb109, 1, none⟩ = some (.slice A0_1 l0_1.length c0_1) := (zql BK109.out 1).trans rfl
              have hfz7_0 := zqm BK109.out 0
              have hfz7_1 := zqm BK109.out 1
              have p110 : 0 ≤ (x4_1 : Int) := zqe (by first | (with_reducible assumption) | assumption)
              have q110 : x4_1 < (l0_1.length : Int) := zqe (by first | (with_reducible assumption) | assumption)
              obtain ⟨ad110, A110_0, c110_0, e110, hx110_0, hl110_0, hi110_0⟩ := at_L3 HR0_1.out x4_1 p110 q110
              cases e110
              replace hx110_0 := (HB.out.cell (World.block_lt_of_cell? w _ hx110_0)).trans hx110_0
              have HR110_0 := K0 hi110_0
              have HC110_0 := K0 hl110_0
              clear hi110_0 hl110_0
              replace p110 := eq_true p110
              replace q110 := eq_true q110
              go_wp2
              go_roundg k1
              case measure => have := HK1.out; omega
              case rel => exact ⟨(wrap64 (x3_1 + ((rd_L3 l0_1 x4_1).length : Int))), (wrap64 (x4_1 + 1)), (by first | rfl | (simp; done) | (simp [*]; done)), (by first | rfl | (simp; done) | (simp [*]; done)), H', ⟨by have := HK1.out; omega⟩, ⟨by (with_reducible repeat (first | refine zqj ?_ _ | refine zqk ?_ | refine zqi ?_ _)); exact BK109.out⟩, ⟨by repeat (first | (with_reducible first | exact HB.out | apply zqb | apply zqa | apply zqc | refine zqd ?_ GE109.out) | exact HB.out)⟩⟩
          · rw [if_neg c6] at H
            exact absurd H (by simp)
        · rw [if_neg c5] at H
          have c5b0 : decide (x3_1 ≤ 600) = false := zqu c5
          clear c5
          as_aux_lemma =>
            obtain rfl := zqv H
            have hcz8_0 : wr.cell? ⟨gb109, 0, none⟩ = some (.int .i64 a0_0) := (zql BK109.out 0).trans rfl
            have hcz8_1 : wr.cell? ⟨gb109, 1, none⟩ = some (.slice A0_1 l0_1.length c0_1) := (zql BK109.out 1).trans rfl
            have hfz8_0 := zqm BK109.out 0
            have hfz8_1 := zqm BK109.out 1
            go_wp2
            go_ret
            exact ⟨by first | rfl | (simp [errW_none, errW_some] <;> rfl) | (simp [*, errW_none, errW_some] <;> rfl), by repeat (first | (with_reducible first | exact HB.out | apply zqb | apply zqa | apply zqc | refine zqd ?_ GE109.out) | exact HB.out)⟩
      · rw [if_neg c4] at H
        have c4b0 : decide (x4_1 < (l0_1.length : Int)) = false := zqu c4
        clear c4
        as_aux_lemma =>
          obtain rfl := zqv H
          have hcz9_0 : wr.cell? ⟨gb109, 0, none⟩ = some (.int .i64 a0_0) := (zql BK109.out 0).trans rfl
          have hcz9_1 : wr.cell? ⟨gb109, 1, none⟩ = some (.slice A0_1 l0_1.length c0_1) := (zql BK109.out 1).trans rfl
          have hfz9_0 := zqm BK109.out 0
          have hfz9_1 := zqm BK109.out 1
          go_wp2
          go_ret
          exact ⟨by first | rfl | (simp [errW_none, errW_some] <;> rfl) | (simp [*, errW_none, errW_some] <;> rfl), by repeat (first | (with_reducible first | exact HB.out | apply zqb | apply zqa | apply zqc | refine zqd ?_ GE109.out) | exact HB.out)⟩
abbrev Hd := Option Addr × Nat × Nat
def hdv (x : Hd) : Value := .slice x.1 x.2.1 x.2.2
abbrev kH : Kd Hd := Kd.scalar hdv (fun _ => rfl)
def HdOf (W : World) (h : Hd) (x : List Int) : Prop := h.2.1 = x.length ∧ x.length ≤ h.2.2 ∧ Kd.C (Kd.int .i64) W h.1 x.length x
def HdsOf (W : World) (hs : List Hd) (xs : List (List Int)) : Prop := hs.length = xs.length ∧ ∀ (i : Nat) (h : Hd) (x : List Int), hs[i]? = some h → xs[i]? = some x → HdOf W h x
theorem HdsOf.below {W W' : World} {hs : List Hd} {xs : List (List Int)} (h : HdsOf W hs xs) (hb : Below W.heap.size W W') : HdsOf W' hs xs :=
  ⟨h.1, fun i a b ha hb' => ⟨(h.2 i a b ha hb').1, (h.2 i a b ha hb').2.1, Kd.C_below (h.2 i a b ha hb').2.2 hb⟩⟩
theorem HdsOf.part {W : World} {A : Option Addr} {n : Nat} {xs : List (List Int)} (hC : Kd.C (Kd.slice 3 (Kd.int .i64)) W A n xs) : ∃ hs, HdsOf W hs xs ∧ Kd.C kH W A n hs := by
  obtain ⟨h1, h2, h3⟩ := hC
  rcases Nat.eq_zero_or_pos n with h0 | h0
  · have hx : xs = [] := List.eq_nil_of_length_eq_zero (by omega)
    subst hx
    exact ⟨[], ⟨rfl, fun i h x hi => by simp at hi⟩, ⟨by simpa using h1, h2, fun h => absurd h (by omega)⟩⟩
  · obtain ⟨ad, e, hc⟩ := h3 h0
    have hex : ∀ j : Nat, ∃ h : Hd, ∀ p, xs[j]? = some p → HdOf W h p ∧ W.cell? (ad.add (j * 1 + 0)) = some (hdv h) := by
      intro j
      by_cases hj : j < xs.length
      · obtain ⟨c, hcl, ⟨A1, c1, hcs, hle, hr⟩, hcc⟩ := hc j xs[j] (List.getElem?_eq_getElem hj)
        refine ⟨(A1, xs[j].length, c1), fun p hp => ?_⟩
        rw [List.getElem?_eq_getElem hj] at hp
        cases hp
        exact ⟨⟨rfl, hle, hr⟩, hcc 0 _ (by rw [hcs]; rfl)⟩
      · exact ⟨(none, 0, 0), fun p hp => absurd (List.getElem?_eq_some_iff.1 hp).1 hj⟩
    obtain ⟨F, hF⟩ := Classical.axiomOfChoice hex
    refine ⟨(List.range xs.length).map F, ⟨by simp, ?_⟩, by simpa using h1, h2, fun _ => ⟨ad, e, ?_⟩⟩
    · intro i h x hi hx
      have hl : i < xs.length := (List.getElem?_eq_some_iff.1 hx).1
      simp [List.getElem?_map, List.getElem?_range hl] at hi
      rw [← hi]
      exact (hF i x hx).1
    · intro j p hp
      have hl : j < xs.length := by have := (List.getElem?_eq_some_iff.1 hp).1; simpa using this
      simp [List.getElem?_map, List.getElem?_range hl] at hp
      refine ⟨[hdv p], rfl, rfl, fun i u hu => ?_⟩
      cases i with
      | zero =>
        simp only [List.getElem?_cons_zero, Option.some.injEq] at hu
        rw [← hu, ← hp]
        exact (hF j xs[j] (List.getElem?_eq_getElem hl)).2
      | succ i => simp at hu
theorem HdsOf.add {W : World} {hs : List Hd} {xs : List (List Int)} {h : Hd} {x : List Int} (H : HdsOf W hs xs) (h1 : HdOf W h x) : HdsOf W (hs ++ [h]) (xs ++ [x]) := by
  refine ⟨by simp [H.1], fun i a b ha hb => ?_⟩
  rw [List.getElem?_append] at ha hb
  rw [H.1] at ha
  split at ha
  · rename_i hlt
    rw [if_pos hlt] at hb
    exact H.2 i a b ha hb
  · rename_i hlt
    rw [if_neg hlt] at hb
    have h0 : i - xs.length = 0 := by have := (List.getElem?_eq_some_iff.1 hb).1; simp at this; omega
    rw [h0] at ha hb
    simp at ha hb
    rw [← ha, ← hb]
    exact h1
set_option maxRecDepth 100000 in
set_option maxHeartbeats 2000000 in
theorem slices_Clone_rows.calls (A : Option Addr) (c : Nat) (xs : List Hd) (w : World) (hr : Kd.C kH w A xs.length xs) (hc : xs.length ≤ c) (hl : xs.length < 5864062014805) :
    Calls Try.prog 26 #[.slice A xs.length c] w fun e w' => ∃ v', e = .returned v' ∧ Kd.R kH 25 w' w.heap.size (fun _ => True) v' xs ∧ Below w.heap.size w w' := by
  have HR := K0 hr
  have HL := K0 hl
  cases A with
  | none =>
    have h0 : xs = [] := by
      rcases Nat.eq_zero_or_pos xs.length with h | h
      · exact List.eq_nil_of_length_eq_zero h
      · obtain ⟨ad, e, _⟩ := hr.2.2 h
        cases e
    subst h0
    clear hr hl
    have hq := fun W : World => Lib.run_eql_slice_nil (P := Try.prog) W 22 25 none 0 c 0 0 Try.underlying22
    simp only [Option.isNone_none] at hq
    go_enter Try.func26, Try.ntmps26
    go_wp2
    go_ret
    exact ⟨_, rfl, Kd.R_nil _ _ _ _ _, zqw _ _⟩
  | some a =>
    clear hr hl
    have hE : Kd.R kH 25 (w.alloc (.cells #[] 25)) w.heap.size (fun _ => True) (.slice (some ⟨w.heap.size, 0, none⟩) 0 0) ([] : List Hd) := Kd.R_of_own (by have := own_lit w w.heap.size 25 .i64 [] (zqx _) (by simp); simpa [encs, nums] using this) (fun _ _ => trivial)
    have HE := K0 hE
    clear hE
    have hq := fun W : World => Lib.run_eql_slice_nil (P := Try.prog) W 22 25 (some a) xs.length c 0 0 Try.underlying22
    simp only [Option.isNone_some] at hq
    go_enter Try.func26, Try.ntmps26
    go_wp2_with (at_builtin; refine Kd.R_append_row hdv ((none, 0, 0) : Hd) (w0 := w) (W := w.alloc (.cells #[] 25)) w.heap.size rfl (.tmp 5) (.tmp 6) 22 25 (.slice none 0 0) 24 rfl Try.underlying22 (by kernel_rfl) rfl (by decide) _ [] xs _ _ _ (fun _ => True) rfl rfl (fun _ _ => trivial) HE.out (Kd.C_below HR.out (zqb (zqw _ _) _)) (zqb (zqw _ _) _) (by simp) (by have := HL.out; simp; omega) ?_; intro v1 w1 r1 hb1 hg1 hat1)
    go_ret
    exact ⟨_, rfl, (by have h := r1; rw [List.nil_append] at h; exact h), hb1⟩
def heldR (v : Value) : Option (DataW Value × List MemPlace) := some (.held v, [])
def KeysI (D : DataW Value) : Prop := ∃ es, D = .map es ∧ es.Pairwise (fun p q => p.1 ≠ q.1) ∧ ∀ p ∈ es, ∃ x : Int, p.1 = .int .i64 x
def MapI (P : Program) (k : TypeId) (w : World) (b : Nat) (f : Int → Option Value) : Prop :=
  ∃ D, w.ownsMap P k heldR b (Maps.size D) D ∧ KeysI D ∧ ∀ x : Int, Maps.has D (.int .i64 x) = (f x).isSome ∧ ∀ z, D.atKey (.int .i64 x) (.held z) = .held ((f x).getD z)
section
variable {P : Program} {k : TypeId} {w : World} {b : Nat} {f : Int → Option Value}
theorem ownsMap_tight {R : Value → Option (DataW Value × List MemPlace)} {n : Nat} {D : DataW Value} (h : w.ownsMap P k R b n D) : w.ownsMap P k R b (Maps.size D) D := by
  obtain ⟨es, clock, hb, F, hs, rfl⟩ := h
  exact ⟨es, clock, hb, F, by simp [Maps.size, Go.length_sorted], rfl⟩
theorem KeysI.tidy {D : DataW Value} (h : KeysI D) : Maps.Tidy D := by
  obtain ⟨es, e, hp, _⟩ := h
  exact ⟨es, e, hp⟩
theorem mem_insert_lit {x y : Lit × DataW Value} : ∀ {l : List (Lit × DataW Value)}, y ∈ DataW.insert x l → y = x ∨ y ∈ l
  | [], h => by simp [DataW.insert] at h; exact .inl h
  | z :: r, h => by
    unfold DataW.insert at h
    split at h
    · rcases List.mem_cons.1 h with h | h
      · exact .inl h
      · exact .inr h
    · rcases List.mem_cons.1 h with h | h
      · exact .inr (by simp [h])
      · rcases mem_insert_lit h with h | h
        · exact .inl h
        · exact .inr (by simp [h])
theorem KeysI.put {D : DataW Value} (h : KeysI D) (x : Int) (d : DataW Value) : KeysI (D.put (.int .i64 x) d) := by
  obtain ⟨es', e', hp'⟩ := h.tidy.put (k := .int .i64 x) trivial d
  refine ⟨es', e', hp', fun p hp => ?_⟩
  obtain ⟨es, rfl, _, hk⟩ := h
  unfold DataW.put at e'
  injection e' with e'
  rw [← e'] at hp
  rcases mem_insert_lit hp with rfl | hp
  · exact ⟨x, rfl⟩
  · exact hk p (List.mem_filter.1 hp).1
theorem KeysI.del {D : DataW Value} (h : KeysI D) (x : Int) : KeysI (D.del (.int .i64 x)) := by
  obtain ⟨es', e', hp'⟩ := h.tidy.del (.int .i64 x)
  refine ⟨es', e', hp', fun p hp => ?_⟩
  obtain ⟨es, rfl, _, hk⟩ := h
  unfold DataW.del at e'
  injection e' with e'
  rw [← e'] at hp
  exact hk p (List.mem_filter.1 hp).1
theorem nodup_le : ∀ {K L : List Int}, K.Nodup → (∀ x ∈ K, x ∈ L) → K.length ≤ L.length
  | [], _, _, _ => by simp
  | x :: K, L, hn, h => by
    obtain ⟨h1, h2⟩ := List.nodup_cons.1 hn
    have hx := h x (by simp)
    have := nodup_le (K := K) (L := L.erase x) h2 (fun y hy => (List.mem_erase_of_ne (by rintro rfl; exact h1 hy)).2 (h y (by simp [hy])))
    rw [List.length_erase_of_mem hx] at this
    have := List.length_pos_of_mem hx
    rw [List.length_cons]; omega
theorem size_le_cover {D : DataW Value} (hD : KeysI D) (hf : ∀ x : Int, Maps.has D (.int .i64 x) = (f x).isSome) (L : List Int) (hL : ∀ x, (f x).isSome = true → x ∈ L) : Maps.size D ≤ L.length := by
  obtain ⟨es, rfl, hp, hk⟩ := hD
  let g : Lit × DataW Value → Int := fun p => match p.1 with | .int _ x => x | _ => 0
  have hg : ∀ p ∈ es, p.1 = .int .i64 (g p) := fun p hp => by
    obtain ⟨x, e⟩ := hk p hp
    show p.1 = .int .i64 (match p.1 with | .int _ x => x | _ => 0)
    rw [e]
  have hn : (es.map g).Nodup := by
    unfold List.Nodup
    rw [List.pairwise_map]
    refine hp.imp_of_mem fun {p q} hp hq hne e => hne ?_
    rw [hg p hp, hg q hq, e]
  have := nodup_le hn (L := L) (fun x hx => by
    obtain ⟨p, hpm, rfl⟩ := List.mem_map.1 hx
    refine hL _ ?_
    rw [← hf]
    rw [Maps.has_eq, List.any_eq_true]
    exact ⟨p, hpm, by rw [hg p hpm]; simp [Lit.sameKey]⟩)
  simpa [Maps.size] using this
theorem MapI.made (w : World) (P : Program) (k : TypeId) : MapI P k (w.alloc (.map #[] 0)) w.heap.size (fun _ => none) :=
  ⟨.map [], World.ownsMap_made w P k heldR, ⟨[], rfl, List.Pairwise.nil, fun p hp => by cases hp⟩, fun x => ⟨rfl, fun z => rfl⟩⟩
theorem MapI.lt (h : MapI P k w b f) : b < w.heap.size := by
  obtain ⟨D, h, _⟩ := h
  exact h.lt
theorem MapI.block {w' : World} (h : MapI P k w b f) (hb : w'.heap[b]? = w.heap[b]?) : MapI P k w' b f := by
  obtain ⟨D, ⟨es, clock, h1, F, h2⟩, r⟩ := h
  exact ⟨D, ⟨es, clock, hb.trans h1, F, h2⟩, r⟩
theorem MapI.congr {g : Int → Option Value} (h : MapI P k w b f) (e : ∀ x, f x = g x) : MapI P k w b g := by
  rw [← funext e]; exact h
theorem MapI.look {t e : TypeId} (h : MapI P k w b f) (hk : P.underlying k = some (.int .i64)) (ht : P.underlying t = some (.map k e)) {z : Value} (hz : (zeroValue e).run P w = .ok z w) {x : Int} (hx : (Lit.int .i64 x).wf = true) :
    (Instr.lookup t (.map (some b)) (.int .i64 x) false).run P w = .ok ((f x).getD z) w := by
  obtain ⟨D, h, _, hf⟩ := h
  obtain ⟨v, ps, hrun, hv⟩ := h.lookup (Maps.int_keyed hk) ht hz (show heldR z = some (.held z, []) from rfl) (Maps.keyOf_int_mk hk hx)
  rw [(hf x).2 z] at hv
  simp only [heldR, Option.some.injEq, Prod.mk.injEq, DataW.held.injEq] at hv
  rw [hrun, hv.1]
theorem MapI.look_ok {t e : TypeId} (h : MapI P k w b f) (hk : P.underlying k = some (.int .i64)) (ht : P.underlying t = some (.map k e)) {z : Value} (hz : (zeroValue e).run P w = .ok z w) {x : Int} (hx : (Lit.int .i64 x).wf = true) :
    (Instr.lookup t (.map (some b)) (.int .i64 x) true).run P w = .ok (.tuple #[(f x).getD z, .bool (f x).isSome]) w := by
  obtain ⟨D, h, _, hf⟩ := h
  obtain ⟨v, ps, hrun, hv⟩ := h.look_ok (Maps.int_keyed hk) ht hz (show heldR z = some (.held z, []) from rfl) (Maps.keyOf_int_mk hk hx)
  rw [(hf x).2 z] at hv
  simp only [heldR, Option.some.injEq, Prod.mk.injEq, DataW.held.injEq] at hv
  rw [hrun, hv.1, (hf x).1]
def setI (f : Int → Option Value) (x : Int) (v : Option Value) : Int → Option Value := fun y => if y = x then v else f y
theorem MapI.store {t e : TypeId} (h : MapI P k w b f) (hk : P.underlying k = some (.int .i64)) (ht : P.underlying t = some (.map k e)) {x : Int} (hx : (Lit.int .i64 x).wf = true) (v : Value) (L : List Int) (hL : ∀ x, (f x).isSome = true → x ∈ L) (hn : L.length < 4611686018427387904) :
    ∃ w', (Instr.mapUpdate t (.map (some b)) (.int .i64 x) v).run P w = .ok () w' ∧ MapI P k w' b (setI f x (some v)) ∧ w.grownBy w' (some b) := by
  obtain ⟨D, h, hD, hf⟩ := h
  have hsz := size_le_cover hD (fun x => (hf x).1) L hL
  obtain ⟨w', hrun, hown, hg⟩ := h.update (Maps.int_keyed hk) ht (by unfold maxLen; omega) (Maps.keyOf_int_mk hk hx) (show heldR v = some (.held v, []) from rfl)
  refine ⟨w', hrun, ⟨_, ownsMap_tight hown, hD.put x _, fun y => ?_⟩, hg⟩
  unfold setI
  by_cases e : y = x
  · subst e
    rw [if_pos rfl]
    exact ⟨Maps.has_put_same hD.tidy.isMap (show WideAt.IsKeyLit (.int .i64 y) from trivial) _, fun z => Maps.atKey_put_same hD.tidy.isMap (show WideAt.IsKeyLit (.int .i64 y) from trivial) _ _⟩
  · rw [if_neg e]
    have hne : (Lit.int .i64 y) ≠ .int .i64 x := fun h => e (by injection h)
    rw [Maps.has_put_other hne]
    exact ⟨(hf y).1, fun z => by rw [Maps.atKey_put_other hne]; exact (hf y).2 z⟩
theorem MapI.drop {t e : TypeId} (h : MapI P k w b f) (hk : P.underlying k = some (.int .i64)) (ht : P.underlying t = some (.map k e)) {x : Int} (hx : (Lit.int .i64 x).wf = true) (ty : TypeId) :
    ∃ w', (Builtin.delete_ #[t, k] ty #[.map (some b), .int .i64 x]).run P w = .ok (.tuple #[]) w' ∧ MapI P k w' b (setI f x none) ∧ w.grownBy w' (some b) := by
  obtain ⟨D, h, hD, hf⟩ := h
  obtain ⟨w', hrun, hown, ht'⟩ := h.drop (Maps.int_keyed hk) ht (Maps.keyOf_int_mk hk hx) ty
  refine ⟨w', hrun, ⟨_, ownsMap_tight hown, hD.del x, fun y => ?_⟩, ht'.grown⟩
  unfold setI
  by_cases e : y = x
  · subst e
    rw [if_pos rfl]
    exact ⟨Maps.has_del_same, fun z => Maps.atKey_del_same _⟩
  · rw [if_neg e]
    have hne : (Lit.int .i64 y) ≠ .int .i64 x := fun h => e (by injection h)
    rw [Maps.has_del_other hne]
    exact ⟨(hf y).1, fun z => by rw [Maps.atKey_del_other hne]; exact (hf y).2 z⟩
end
section
variable {P : Program} {w : World} {ops : Array Oper} {rest : List Oper} {o : Oper} {a : Act} {Q : Exit → Act → World → Prop}
theorem wpList_store_I (hg : o.guard = none) (m x v : Operand) (t : TypeId) (hop : o.op = Op.mapUpdate t m x v) (k e : TypeId) (hk : P.underlying k = some (.int .i64)) (ht : P.underlying t = some (.map k e)) (b : Nat) (f : Int → Option Value)
    (hm : a.eval m = .map (some b)) (h : MapI P k w b f) (y : Int) (val : Value) (hx : a.eval x = .int .i64 y) (hv : a.eval v = val) (hy : (Lit.int .i64 y).wf = true) (L : List Int) (hL : ∀ x, (f x).isSome = true → x ∈ L) (hn : L.length < 4611686018427387904)
    (hK : ∀ w', MapI P k w' b (setI f y (some val)) → w.grownBy w' (some b) → wpList P ops Q rest (a.put o.dst undef) w') : wpList P ops Q (o :: rest) a w := by
  refine wpList_plain hg fun K' hK' => ?_
  obtain ⟨w', hrun, r1, r2⟩ := h.store hk ht hy val L hL hn
  unfold Oper.wp
  simp [execOp, hop, hm, hx, hv, hrun, Result.andThen]
  exact hK' _ _ (hK w' r1 r2)
end
structure Eng where
  n : Int
  cls : List (List Int)
  wt : Int → List Int
  ws : Nat
  tr : List Int
  ms : Int → Option (Int × Int)
  st : List Int
  br : Int
def Eng.Lits (E : Eng) : Prop := ∀ c ∈ E.cls, ∀ x ∈ c, (Lit.int .i64 x).wf = true
structure EngP where
  vC : Value
  hs : List Hd
  vT : Value
  vS : Value
  bw : Nat
  bm : Nat
  fw : Int → Option Value
def EngCells (E : Eng) (p : EngP) : Array Value := #[.int .i64 E.n, p.vC, .map (some p.bw), p.vT, .map (some p.bm), p.vS, .int .i64 E.br]
def mkV (f : Int → Option (Int × Int)) (x : Int) : Option Value := (f x).map fun q => .agg #[.int .i64 q.1, .int .i64 q.2]
abbrev Tag := Nat → Int × Int
structure EngIn (w : World) (B : Nat) (T : Tag) (E : Eng) (p : EngP) : Prop where
  fresh : ∀ k, w.heap.size ≤ k → T k = (0, 0)
  blk : w.heap[B]? = some (.cells (EngCells E p) 70 (0, 0))
  tB : T B = (1, 0)
  cls : Kd.R kH 25 w 0 (fun k => T k = (2, 0)) p.vC p.hs
  len : p.hs.length = E.cls.length
  rows : ∀ (i : Nat) (h : Hd) (c : List Int), p.hs[i]? = some h → E.cls[i]? = some c → Kd.R (Kd.int .i64) 3 w 0 (fun k => T k = (3, 0)) (hdv h) c
  tr : Kd.R (Kd.int .i64) 3 w 0 (fun k => T k = (4, 0)) p.vT E.tr
  st : Kd.R (Kd.int .i64) 3 w 0 (fun k => T k = (5, 0)) p.vS E.st
  ms : MapI Try.prog 3 w p.bm (mkV E.ms)
  tM : T p.bm = (6, 0)
  mst : ∀ x, (E.ms x).isSome = true → x ∈ E.tr
  wt : MapI Try.prog 3 w p.bw p.fw
  tW : T p.bw = (7, 0)
  grp : ∀ x, Kd.R (Kd.int .i64) 3 w 0 (fun k => T k = (8, x)) ((p.fw x).getD (.slice none 0 0)) (E.wt x)
  cov : ∃ L : List Int, (∀ x, (p.fw x).isSome = true → x ∈ L) ∧ L.length ≤ E.ws
  wsz : ∀ x, (E.wt x).length ≤ E.ws
structure Moved (T T' : Tag) (W W' : World) : Prop where
  os : W'.os = W.os
  tape : W'.tape = W.tape
  output : W'.output = W.output
  size : W.heap.size ≤ W'.heap.size
  old : ∀ k, k < W.heap.size → T' k = T k ∧ (T k = (0, 0) → W'.heap[k]? = W.heap[k]?)
def EngPost (B : Nat) (T : Tag) (p : EngP) (E' : Eng) (W W' : World) : Prop := ∃ T' p', EngIn W' B T' E' p' ∧ Moved T T' W W' ∧ p'.fw = p.fw
theorem Moved.refl (T : Tag) (W : World) : Moved T T W W := ⟨rfl, rfl, rfl, zqx _, fun _ _ => ⟨rfl, fun _ => rfl⟩⟩
theorem Moved.trans {T T' T'' : Tag} {W W' W'' : World} (h : Moved T T' W W') (k : Moved T' T'' W' W'') : Moved T T'' W W'' :=
  ⟨k.os.trans h.os, k.tape.trans h.tape, k.output.trans h.output, Nat.le_trans h.size k.size, fun i hi => by
    obtain ⟨a1, a2⟩ := h.old i hi
    obtain ⟨b1, b2⟩ := k.old i (Nat.lt_of_lt_of_le hi h.size)
    exact ⟨b1.trans a1, fun e => (b2 (a1.trans e)).trans (a2 e)⟩⟩
theorem Moved.of_below {T : Tag} {W W' : World} (h : Below W.heap.size W W') : Moved T T W W' := ⟨h.os, h.tape, h.output, h.size, fun k hk => ⟨rfl, fun _ => h.block k hk⟩⟩
theorem Moved.below {T T' : Tag} {W W' : World} (h : Moved T T' W W') (n : Nat) (hn : n ≤ W.heap.size) (h0 : ∀ k, k < n → T k = (0, 0)) : Below n W W' := ⟨h.os, h.tape, h.output, h.size, fun k hk => (h.old k (by omega)).2 (h0 k hk)⟩
section
variable {α : Type} {d : Kd α} {e : Nat} {w w1 : World} {T T' : Tag} {t : Int × Int} {v : Value} {xs : List α}
theorem R_tag (h : d.R e w 0 (fun k => T k = t) v xs) (hm : ∀ k, k < w.heap.size → T k = t → w1.heap[k]? = w.heap[k]?) (hT : ∀ k, k < w.heap.size → T' k = T k) : d.R e w1 0 (fun k => T' k = t) v xs := by
  have h1 := Kd.R_bound h
  have h2 := Kd.R_step h1 (w1 := w1) (fun k hk hlt => hm k hlt hk.1)
  exact Kd.R_mono h2 (fun k hk => (hT k hk.2.2.1).trans hk.1)
end
def retag (T : Tag) (W : World) (v : Value) (t : Int × Int) : Tag := fun k => if W.heap.size ≤ k ∧ v.ownBlock = some k then t else T k
theorem retag_old {T : Tag} {W : World} {v : Value} {t : Int × Int} (k : Nat) (hk : k < W.heap.size) : retag T W v t k = T k := if_neg (fun h => by omega)
theorem R_retag {α : Type} {enc : α → Value} {h1 : ∀ x, (enc x).oneCell' = true} {e : Nat} {W w1 : World} {T : Tag} {t : Int × Int} {v : Value} {xs : List α} {ok : Nat → Prop} (h : (Kd.scalar enc h1).R e w1 0 ok v xs) (hok : ∀ k, ok k → k < W.heap.size → T k = t) : (Kd.scalar enc h1).R e w1 0 (fun k => retag T W v t k = t) v xs := by
  refine Kd.R_of_own (Kd.own_of_R h) (fun k hk => ?_)
  unfold retag
  by_cases hlt : k < W.heap.size
  · rw [if_neg (fun h => by omega)]
    exact hok k (h.1 k hk) hlt
  · rw [if_pos ⟨by omega, hk⟩]
section
variable {w w1 : World} {B : Nat} {T : Tag} {E : Eng} {p : EngP}
theorem EngIn.below (h : EngIn w B T E p) (hb : Below w.heap.size w w1) : EngIn w1 B T E p where
  fresh k hk := h.fresh k (Nat.le_trans hb.size hk)
  blk := zqn h.blk hb
  tB := h.tB
  cls := Kd.R_below h.cls hb
  len := h.len
  rows i a c ha hc := Kd.R_below (h.rows i a c ha hc) hb
  tr := Kd.R_below h.tr hb
  st := Kd.R_below h.st hb
  ms := h.ms.block (hb.block _ h.ms.lt)
  tM := h.tM
  mst := h.mst
  wt := h.wt.block (hb.block _ h.wt.lt)
  tW := h.tW
  grp x := Kd.R_below (h.grp x) hb
  cov := h.cov
  wsz := h.wsz
theorem EngIn.lt (h : EngIn w B T E p) : B < w.heap.size := blk_lt h.blk
theorem EngIn.cells (h : EngIn w B T E p) : w.cell? ⟨B, 0, none⟩ = some (.int .i64 E.n) ∧ w.cell? ⟨B, 1, none⟩ = some p.vC ∧ w.cell? ⟨B, 2, none⟩ = some (.map (some p.bw)) ∧ w.cell? ⟨B, 3, none⟩ = some p.vT ∧ w.cell? ⟨B, 4, none⟩ = some (.map (some p.bm)) ∧ w.cell? ⟨B, 5, none⟩ = some p.vS ∧ w.cell? ⟨B, 6, none⟩ = some (.int .i64 E.br) ∧ ∀ i, w.frozen? ⟨B, i, none⟩ = false :=
  ⟨zql h.blk 0, zql h.blk 1, zql h.blk 2, zql h.blk 3, zql h.blk 4, zql h.blk 5, zql h.blk 6, fun i => zqm h.blk i⟩
theorem tag_ne {a b : Int} (h : a ≠ b) (x y : Int) : ((a, x) : Int × Int) ≠ (b, y) := fun e => h (congrArg Prod.fst e)
theorem EngIn.kept {T' : Tag} (S : Int × Int → Prop) (h : EngIn w B T E p) (hm : ∀ k, k < w.heap.size → ¬ S (T k) → w1.heap[k]? = w.heap[k]?) (hT : ∀ k, k < w.heap.size → T' k = T k) :
    (¬ S (1, 0) → w1.heap[B]? = some (.cells (EngCells E p) 70 (0, 0))) ∧ T' B = (1, 0) ∧ (¬ S (2, 0) → Kd.R kH 25 w1 0 (fun k => T' k = (2, 0)) p.vC p.hs) ∧
    (¬ S (3, 0) → ∀ (i : Nat) (a : Hd) (c : List Int), p.hs[i]? = some a → E.cls[i]? = some c → Kd.R (Kd.int .i64) 3 w1 0 (fun k => T' k = (3, 0)) (hdv a) c) ∧
    (¬ S (4, 0) → Kd.R (Kd.int .i64) 3 w1 0 (fun k => T' k = (4, 0)) p.vT E.tr) ∧ (¬ S (5, 0) → Kd.R (Kd.int .i64) 3 w1 0 (fun k => T' k = (5, 0)) p.vS E.st) ∧
    (¬ S (6, 0) → MapI Try.prog 3 w1 p.bm (mkV E.ms)) ∧ T' p.bm = (6, 0) ∧ (¬ S (7, 0) → MapI Try.prog 3 w1 p.bw p.fw) ∧ T' p.bw = (7, 0) ∧
    (∀ x, ¬ S (8, x) → Kd.R (Kd.int .i64) 3 w1 0 (fun k => T' k = (8, x)) ((p.fw x).getD (.slice none 0 0)) (E.wt x)) := by
  have hr : ∀ {α : Type} {d : Kd α} {e : Nat} {u : Int × Int} {v : Value} {xs : List α}, d.R e w 0 (fun k => T k = u) v xs → ¬ S u → d.R e w1 0 (fun k => T' k = u) v xs := fun hr hne =>
    R_tag hr (fun k hk e => hm k hk (fun e' => hne (e ▸ e'))) hT
  exact ⟨fun hne => (hm B h.lt (by rw [h.tB]; exact hne)).trans h.blk, (hT B h.lt).trans h.tB, hr h.cls, fun hne i a c ha hc => hr (h.rows i a c ha hc) hne, hr h.tr, hr h.st,
    fun hne => h.ms.block (hm _ h.ms.lt (by rw [h.tM]; exact hne)), (hT _ h.ms.lt).trans h.tM, fun hne => h.wt.block (hm _ h.wt.lt (by rw [h.tW]; exact hne)), (hT _ h.wt.lt).trans h.tW, fun x hne => hr (h.grp x) hne⟩
theorem grown_store {W W1 : World} {T : Tag} {v : Value} {t : Int × Int} (hg : W.grownBy W1 v.ownBlock) (hv : ∀ k, v.ownBlock = some k → T k = t) (hB : B < W.heap.size) (tB : T B = (1, 0)) (i : Nat) (u : Value) :
    (∀ k, k < W.heap.size → ¬ (T k = (1, 0) ∨ T k = t) → (W1.setCell ⟨B, i, none⟩ u).heap[k]? = W.heap[k]?) ∧ (W1.setCell ⟨B, i, none⟩ u).heap.size = W1.heap.size ∧ W.heap.size ≤ W1.heap.size := by
  refine ⟨fun k hk hn => ?_, by simp, hg.size⟩
  rw [Below.heap_setCell W1 _ u k (fun e => hn (.inl (by rw [e]; exact tB)))]
  exact hg.block k hk (fun e => hn (.inr (hv k e.symm)))
theorem blk_after {W W1 : World} {v : Value} {t : Int × Int} {cs cs' : Array Value} {tt : Nat} (hb : W.heap[B]? = some (.cells cs tt (0, 0))) (hg : W.grownBy W1 v.ownBlock) (hv : ∀ k, v.ownBlock = some k → T k = t) (tB : T B = (1, 0)) (hne : t ≠ (1, 0)) (i : Nat) (u : Value) (e : cs.setIfInBounds i u = cs') :
    (W1.setCell ⟨B, i, none⟩ u).heap[B]? = some (.cells cs' tt (0, 0)) := blk_put (blk_grown hb hg (fun e' => hne ((hv B e'.symm).symm.trans tB))) i u e
theorem R_far_set {α : Type} {d : Kd α} {e : Nat} {W : World} {T : Tag} {t : Int × Int} {v : Value} {xs : List α} (h : d.R e W 0 (fun k => T k = t) v xs) (tB : T B = (1, 0)) (hne : t ≠ (1, 0)) (i : Nat) (u : Value) : d.R e (W.setCell ⟨B, i, none⟩ u) 0 (fun k => T k = t) v xs :=
  Kd.R_far h (fun k hk e => hne (by rw [← hk, e]; exact tB)) u
theorem moved_grown {W W2 : World} {T' : Tag} {t : Int × Int} (hfr : W2.os = W.os ∧ W2.tape = W.tape ∧ W2.output = W.output) (hs : W.heap.size ≤ W2.heap.size) (hm : ∀ k, k < W.heap.size → ¬ (T k = (1, 0) ∨ T k = t) → W2.heap[k]? = W.heap[k]?) (hT : ∀ k, k < W.heap.size → T' k = T k) (ht : t ≠ (0, 0)) : Moved T T' W W2 :=
  ⟨hfr.1, hfr.2.1, hfr.2.2, hs, fun k hk => ⟨hT k hk, fun e => hm k hk (fun h => h.elim (fun h => by rw [e] at h; exact absurd h (by decide)) (fun h => ht (h.symm.trans e)))⟩⟩
theorem EngIn.turn_tr (h : EngIn w B T E p) {v1 : Value} {ys : List Int} (hR : Kd.R (Kd.int .i64) 3 w1 0 (fun k => T k = (4, 0) ∨ w.heap.size ≤ k) v1 ys) (hg : w.grownBy w1 p.vT.ownBlock) (hk : ∀ x, (E.ms x).isSome = true → x ∈ ys) :
    EngIn (w1.setCell ⟨B, 3, none⟩ v1) B (retag T w v1 (4, 0)) { E with tr := ys } { p with vT := v1 } ∧ Moved T (retag T w v1 (4, 0)) w (w1.setCell ⟨B, 3, none⟩ v1) := by
  have hv := h.tr.1
  obtain ⟨hm, hs1, hs2⟩ := grown_store hg hv h.lt h.tB 3 v1
  have hT : ∀ k, k < w.heap.size → retag T w v1 (4, 0) k = T k := retag_old
  obtain ⟨k1, k2, k3, k4, k5, k6, k7, k8, k9, k10, k11⟩ := h.kept (S := fun t => t = (1, 0) ∨ t = (4, 0)) hm hT
  have no : ∀ {a b : Int}, a ≠ 1 → a ≠ 4 → ¬ (((a, b) : Int × Int) = (1, 0) ∨ ((a, b) : Int × Int) = (4, 0)) := fun h1 h4 e => e.elim (fun e => h1 (congrArg Prod.fst e)) (fun e => h4 (congrArg Prod.fst e))
  have hR1 := R_retag (W := w) hR (fun k hk hlt => hk.resolve_right (by omega))
  refine ⟨{ fresh := fun k hk => ?_, blk := blk_after h.blk hg hv h.tB (by decide) 3 v1 rfl, tB := k2, cls := k3 (no (by decide) (by decide)), len := h.len, rows := k4 (no (by decide) (by decide)), tr := R_far_set hR1 k2 (by decide) 3 v1, st := k6 (no (by decide) (by decide)), ms := k7 (no (by decide) (by decide)), tM := k8, mst := hk, wt := k9 (no (by decide) (by decide)), tW := k10, grp := fun x => k11 x (no (by decide) (by decide)), cov := h.cov, wsz := h.wsz }, moved_grown ⟨hg.os, hg.tape, hg.output⟩ (by rw [hs1]; exact hs2) hm hT (by decide)⟩
  rw [hs1] at hk
  unfold retag
  rw [if_neg, h.fresh k (by omega)]
  rintro ⟨_, e⟩
  obtain ⟨inner, ho⟩ := Kd.R_own hR
  have := own_lt ho k e
  omega
theorem EngIn.turn_st (h : EngIn w B T E p) {v1 : Value} {ys : List Int} (hR : Kd.R (Kd.int .i64) 3 w1 0 (fun k => T k = (5, 0) ∨ w.heap.size ≤ k) v1 ys) (hg : w.grownBy w1 p.vS.ownBlock) :
    EngIn (w1.setCell ⟨B, 5, none⟩ v1) B (retag T w v1 (5, 0)) { E with st := ys } { p with vS := v1 } ∧ Moved T (retag T w v1 (5, 0)) w (w1.setCell ⟨B, 5, none⟩ v1) := by
  have hv := h.st.1
  obtain ⟨hm, hs1, hs2⟩ := grown_store hg hv h.lt h.tB 5 v1
  have hT : ∀ k, k < w.heap.size → retag T w v1 (5, 0) k = T k := retag_old
  obtain ⟨k1, k2, k3, k4, k5, k6, k7, k8, k9, k10, k11⟩ := h.kept (S := fun t => t = (1, 0) ∨ t = (5, 0)) hm hT
  have no : ∀ {a b : Int}, a ≠ 1 → a ≠ 5 → ¬ (((a, b) : Int × Int) = (1, 0) ∨ ((a, b) : Int × Int) = (5, 0)) := fun h1 h4 e => e.elim (fun e => h1 (congrArg Prod.fst e)) (fun e => h4 (congrArg Prod.fst e))
  have hR1 := R_retag (W := w) hR (fun k hk hlt => hk.resolve_right (by omega))
  refine ⟨{ fresh := fun k hk => ?_, blk := blk_after h.blk hg hv h.tB (by decide) 5 v1 rfl, tB := k2, cls := k3 (no (by decide) (by decide)), len := h.len, rows := k4 (no (by decide) (by decide)), tr := k5 (no (by decide) (by decide)), st := R_far_set hR1 k2 (by decide) 5 v1, ms := k7 (no (by decide) (by decide)), tM := k8, mst := h.mst, wt := k9 (no (by decide) (by decide)), tW := k10, grp := fun x => k11 x (no (by decide) (by decide)), cov := h.cov, wsz := h.wsz }, moved_grown ⟨hg.os, hg.tape, hg.output⟩ (by rw [hs1]; exact hs2) hm hT (by decide)⟩
  rw [hs1] at hk
  unfold retag
  rw [if_neg, h.fresh k (by omega)]
  rintro ⟨_, e⟩
  obtain ⟨inner, ho⟩ := Kd.R_own hR
  have := own_lt ho k e
  omega
theorem EngIn.turn_cls (h : EngIn w B T E p) {v1 : Value} {a : Hd} {c : List Int} (hc : Kd.R (Kd.int .i64) 3 w 0 (fun k => T k = (3, 0)) (hdv a) c) (hR : Kd.R kH 25 w1 0 (fun k => T k = (2, 0) ∨ w.heap.size ≤ k) v1 (p.hs ++ [a])) (hg : w.grownBy w1 p.vC.ownBlock) :
    EngIn (w1.setCell ⟨B, 1, none⟩ v1) B (retag T w v1 (2, 0)) { E with cls := E.cls ++ [c] } { p with vC := v1, hs := p.hs ++ [a] } ∧ Moved T (retag T w v1 (2, 0)) w (w1.setCell ⟨B, 1, none⟩ v1) := by
  have hv := h.cls.1
  obtain ⟨hm, hs1, hs2⟩ := grown_store hg hv h.lt h.tB 1 v1
  have hT : ∀ k, k < w.heap.size → retag T w v1 (2, 0) k = T k := retag_old
  obtain ⟨k1, k2, k3, k4, k5, k6, k7, k8, k9, k10, k11⟩ := h.kept (S := fun t => t = (1, 0) ∨ t = (2, 0)) hm hT
  have no : ∀ {a b : Int}, a ≠ 1 → a ≠ 2 → ¬ (((a, b) : Int × Int) = (1, 0) ∨ ((a, b) : Int × Int) = (2, 0)) := fun h1 h4 e => e.elim (fun e => h1 (congrArg Prod.fst e)) (fun e => h4 (congrArg Prod.fst e))
  have hR1 := R_retag (W := w) hR (fun k hk hlt => hk.resolve_right (by omega))
  have hc1 : Kd.R (Kd.int .i64) 3 (w1.setCell ⟨B, 1, none⟩ v1) 0 (fun k => retag T w v1 (2, 0) k = (3, 0)) (hdv a) c := R_tag hc (fun k hk e => hm k hk (by rw [e]; exact no (by decide) (by decide))) hT
  refine ⟨{ fresh := fun k hk => ?_, blk := blk_after h.blk hg hv h.tB (by decide) 1 v1 rfl, tB := k2, cls := R_far_set hR1 k2 (by decide) 1 v1, len := by simp [h.len], rows := fun i b d hb hd => ?_, tr := k5 (no (by decide) (by decide)), st := k6 (no (by decide) (by decide)), ms := k7 (no (by decide) (by decide)), tM := k8, mst := h.mst, wt := k9 (no (by decide) (by decide)), tW := k10, grp := fun x => k11 x (no (by decide) (by decide)), cov := h.cov, wsz := h.wsz }, moved_grown ⟨hg.os, hg.tape, hg.output⟩ (by rw [hs1]; exact hs2) hm hT (by decide)⟩
  · rw [hs1] at hk
    unfold retag
    rw [if_neg, h.fresh k (by omega)]
    rintro ⟨_, e⟩
    obtain ⟨inner, ho⟩ := Kd.R_own hR
    have := own_lt ho k e
    omega
  · have hb : (p.hs ++ [a])[i]? = some b := hb
    have hd : (E.cls ++ [c])[i]? = some d := hd
    rw [List.getElem?_append] at hb hd
    rw [h.len] at hb
    split at hb
    · rename_i hlt
      rw [if_pos hlt] at hd
      exact k4 (no (by decide) (by decide)) i b d hb hd
    · rename_i hlt
      rw [if_neg hlt] at hd
      have h0 : i - E.cls.length = 0 := by have := (List.getElem?_eq_some_iff.1 hd).1; simp at this; omega
      rw [h0] at hb hd
      simp at hb hd
      rw [← hb, ← hd]
      exact hc1
theorem EngIn.turn_br (h : EngIn w B T E p) (n : Int) : EngIn (w.setCell ⟨B, 6, none⟩ (.int .i64 n)) B T { E with br := n } p ∧ Moved T T w (w.setCell ⟨B, 6, none⟩ (.int .i64 n)) := by
  have hg : w.grownBy w (Value.slice none 0 0).ownBlock := ⟨rfl, rfl, rfl, zqx _, fun _ _ _ => rfl⟩
  obtain ⟨hm, hs1, hs2⟩ := grown_store (t := (1, 0)) hg (fun k hk => by simp [Value.ownBlock] at hk) h.lt h.tB 6 (.int .i64 n)
  obtain ⟨k1, k2, k3, k4, k5, k6, k7, k8, k9, k10, k11⟩ := h.kept (S := fun t => t = (1, 0) ∨ t = (1, 0)) hm (fun _ _ => rfl)
  have no : ∀ {a b : Int}, a ≠ 1 → ¬ (((a, b) : Int × Int) = (1, 0) ∨ ((a, b) : Int × Int) = (1, 0)) := fun h1 e => e.elim (fun e => h1 (congrArg Prod.fst e)) (fun e => h1 (congrArg Prod.fst e))
  exact ⟨{ fresh := fun k hk => h.fresh k (by rw [hs1] at hk; exact hk), blk := blk_put h.blk 6 _ rfl, tB := k2, cls := k3 (no (by decide)), len := h.len, rows := k4 (no (by decide)), tr := k5 (no (by decide)), st := k6 (no (by decide)), ms := k7 (no (by decide)), tM := k8, mst := h.mst, wt := k9 (no (by decide)), tW := k10, grp := fun x => k11 x (no (by decide)), cov := h.cov, wsz := h.wsz }, moved_grown (t := (1, 0)) ⟨rfl, rfl, rfl⟩ (by rw [hs1]; exact zqx _) hm (fun _ _ => rfl) (by decide)⟩
theorem EngIn.turn_ms (h : EngIn w B T E p) {g : Int → Option (Int × Int)} (hM : MapI Try.prog 3 w1 p.bm (mkV g)) (hg : w.grownBy w1 (some p.bm)) (hk : ∀ x, (g x).isSome = true → x ∈ E.tr) :
    EngIn w1 B T { E with ms := g } p ∧ Moved T T w w1 := by
  have hm : ∀ k, k < w.heap.size → ¬ (T k = (6, 0)) → w1.heap[k]? = w.heap[k]? := fun k hk hn => hg.block k hk (fun e => hn (by injection e with e; rw [e]; exact h.tM))
  obtain ⟨k1, k2, k3, k4, k5, k6, k7, k8, k9, k10, k11⟩ := h.kept (S := fun t => t = (6, 0)) hm (fun _ _ => rfl)
  have no : ∀ {a b : Int}, a ≠ 6 → ¬ (((a, b) : Int × Int) = (6, 0)) := fun h1 e => h1 (congrArg Prod.fst e)
  exact ⟨{ fresh := fun k hk => h.fresh k (Nat.le_trans hg.size hk), blk := k1 (no (by decide)), tB := k2, cls := k3 (no (by decide)), len := h.len, rows := k4 (no (by decide)), tr := k5 (no (by decide)), st := k6 (no (by decide)), ms := hM, tM := k8, mst := hk, wt := k9 (no (by decide)), tW := k10, grp := fun x => k11 x (no (by decide)), cov := h.cov, wsz := h.wsz }, ⟨hg.os, hg.tape, hg.output, hg.size, fun k hk => ⟨rfl, fun e => hm k hk (by rw [e]; decide)⟩⟩⟩
theorem EngIn.turn_wt (h : EngIn w B T E p) {w2 : World} {x : Int} {v1 : Value} {ys : List Int} (hR : Kd.R (Kd.int .i64) 3 w1 0 (fun k => T k = (8, x) ∨ w.heap.size ≤ k) v1 ys) (hg : w.grownBy w1 ((p.fw x).getD (.slice none 0 0)).ownBlock)
    (hM : MapI Try.prog 3 w2 p.bw (setI p.fw x (some v1))) (hg2 : w1.grownBy w2 (some p.bw)) (hys : ys.length ≤ E.ws + 1) :
    EngIn w2 B (retag T w v1 (8, x)) { E with wt := fun y => if y = x then ys else E.wt y, ws := E.ws + 1 } { p with fw := setI p.fw x (some v1) } ∧ Moved T (retag T w v1 (8, x)) w w2 ∧
      (∀ {v : Value} {zs : List Int}, Kd.R (Kd.int .i64) 3 w 0 (fun k => T k = (3, 0)) v zs → Kd.R (Kd.int .i64) 3 w2 0 (fun k => retag T w v1 (8, x) k = (3, 0)) v zs) := by
  have hv := (h.grp x).1
  have hs2 := Nat.le_trans hg.size hg2.size
  have hm : ∀ k, k < w.heap.size → ¬ (T k = (7, 0) ∨ T k = (8, x)) → w2.heap[k]? = w.heap[k]? := fun k hk hn =>
    (hg2.block k (Nat.lt_of_lt_of_le hk hg.size) (fun e => hn (.inl (by injection e with e; rw [e]; exact h.tW)))).trans (hg.block k hk (fun e => hn (.inr (hv k e.symm))))
  have hT : ∀ k, k < w.heap.size → retag T w v1 (8, x) k = T k := retag_old
  obtain ⟨k1, k2, k3, k4, k5, k6, k7, k8, k9, k10, k11⟩ := h.kept (S := fun t => t = (7, 0) ∨ t = (8, x)) hm hT
  have no : ∀ {a b : Int}, a ≠ 7 → a ≠ 8 → ¬ (((a, b) : Int × Int) = (7, 0) ∨ ((a, b) : Int × Int) = (8, x)) := fun h1 h4 e => e.elim (fun e => h1 (congrArg Prod.fst e)) (fun e => h4 (congrArg Prod.fst e))
  have hR1 := R_retag (W := w) hR (fun k hk hlt => hk.resolve_right (by omega))
  have hlw : p.bw < w.heap.size := h.wt.lt
  have hR2 : Kd.R (Kd.int .i64) 3 w2 0 (fun k => retag T w v1 (8, x) k = (8, x)) v1 ys := Kd.R_grown hR1 hg2 (fun k hk e => by
    injection e with e
    rw [e, retag_old _ hlw, h.tW] at hk
    exact absurd (congrArg Prod.fst hk) (show (7 : Int) ≠ 8 by decide))
  refine ⟨{ fresh := fun k hk => ?_, blk := k1 (no (by decide) (by decide)), tB := k2, cls := k3 (no (by decide) (by decide)), len := h.len, rows := k4 (no (by decide) (by decide)), tr := k5 (no (by decide) (by decide)), st := k6 (no (by decide) (by decide)), ms := k7 (no (by decide) (by decide)), tM := k8, mst := h.mst, wt := hM, tW := k10, grp := fun y => ?_, cov := ?_, wsz := fun y => ?_ }, ⟨hg2.os.trans hg.os, hg2.tape.trans hg.tape, hg2.output.trans hg.output, hs2, fun k hk => ⟨hT k hk, fun e => hm k hk (by rw [e]; exact no (by decide) (by decide))⟩⟩, fun hz => R_tag hz (fun k hk e => hm k hk (by rw [e]; exact no (by decide) (by decide))) hT⟩
  · unfold retag
    rw [if_neg, h.fresh k (by omega)]
    rintro ⟨_, e⟩
    obtain ⟨inner, ho⟩ := Kd.R_own hR2
    have := own_lt ho k e
    omega
  · show Kd.R (Kd.int .i64) 3 w2 0 (fun k => retag T w v1 (8, x) k = (8, y)) ((setI p.fw x (some v1) y).getD (.slice none 0 0)) (if y = x then ys else E.wt y)
    unfold setI
    by_cases e : y = x
    · subst e
      rw [if_pos rfl, if_pos rfl]
      exact hR2
    · rw [if_neg e, if_neg e]
      exact k11 y (fun h => h.elim (fun h => absurd (congrArg Prod.fst h) (show (8 : Int) ≠ 7 by decide)) (fun h => e (congrArg Prod.snd h)))
  · obtain ⟨L, hL, hl⟩ := h.cov
    refine ⟨x :: L, fun y hy => ?_, by simp; omega⟩
    have hy : (setI p.fw x (some v1) y).isSome = true := hy
    unfold setI at hy
    by_cases e : y = x
    · rw [e]; simp
    · rw [if_neg e] at hy
      exact List.mem_cons_of_mem _ (hL y hy)
  · show (if y = x then ys else E.wt y).length ≤ E.ws + 1
    split
    · exact hys
    · have := h.wsz y; omega
theorem EngIn.newrow (h : EngIn w B T E p) (hb : Below w.heap.size w w1) {ok : Nat → Prop} {v : Value} {c : List Int} (hR : Kd.R (Kd.int .i64) 3 w1 w.heap.size ok v c) :
    EngIn w1 B (retag T w v (3, 0)) E p ∧ Moved T (retag T w v (3, 0)) w w1 ∧ Kd.R (Kd.int .i64) 3 w1 0 (fun k => retag T w v (3, 0) k = (3, 0)) v c := by
  have hT : ∀ k, k < w.heap.size → retag T w v (3, 0) k = T k := retag_old
  obtain ⟨k1, k2, k3, k4, k5, k6, k7, k8, k9, k10, k11⟩ := h.kept (S := fun _ => False) (fun k hk _ => hb.block k hk) hT
  have no : ¬ False := id
  obtain ⟨inner, ho⟩ := Kd.R_own hR
  refine ⟨{ fresh := fun k hk => ?_, blk := k1 no, tB := k2, cls := k3 no, len := h.len, rows := k4 no, tr := k5 no, st := k6 no, ms := k7 no, tM := k8, mst := h.mst, wt := k9 no, tW := k10, grp := fun x => k11 x no, cov := h.cov, wsz := h.wsz }, ⟨hb.os, hb.tape, hb.output, hb.size, fun k hk => ⟨hT k hk, fun _ => hb.block k hk⟩⟩, ?_⟩
  · unfold retag
    rw [if_neg, h.fresh k (Nat.le_trans hb.size hk)]
    rintro ⟨_, e⟩
    have := own_lt ho k e
    omega
  · refine Kd.R_of_own (Kd.own_of_R (Kd.R_lower hR (Nat.zero_le _))) (fun k hk => ?_)
    unfold retag
    exact if_pos ⟨own_base ho k hk, hk⟩
end
section
variable {P : Program} {ops : Array Oper} {o : Oper} {a : Act} {Q : Exit → Act → World → Prop} {K : Act → World → Prop} {W : World}
theorem step_store_I (hw : Region.wanted o (yielded ops a.tmps) = true) (m x v : Operand) (t : TypeId) (hop : o.op = Op.mapUpdate t m x v) (k e : TypeId) (hk : P.underlying k = some (.int .i64)) (ht : P.underlying t = some (.map k e)) (b : Nat) (f : Int → Option Value)
    (hm : a.eval m = .map (some b)) (h : MapI P k W b f) (y : Int) (val : Value) (hx : a.eval x = .int .i64 y) (hv : a.eval v = val) (hy : (Lit.int .i64 y).wf = true) (L : List Int) (hL : ∀ x, (f x).isSome = true → x ∈ L) (hn : L.length < 4611686018427387904)
    (hK : ∀ w', MapI P k w' b (setI f y (some val)) → W.grownBy w' (some b) → K (a.put o.dst undef) w') :
    if Region.wanted o (yielded ops a.tmps) = true then Oper.wp P o a W K Q else K (a.put o.dst undef) W := by
  rw [if_pos hw]
  obtain ⟨w', hrun, r1, r2⟩ := h.store hk ht hy val L hL hn
  unfold Oper.wp
  simp [execOp, hop, hm, hx, hv, hrun, Result.andThen]
  exact hK w' r1 r2
end
theorem EngIn.after {w w1 : World} {B : Nat} {T : Tag} {E : Eng} {p : EngP} (h : EngIn w B T E p) {v : Value} {t : Int × Int} (hv : ∀ k, v.ownBlock = some k → T k = t) (hne : t ≠ (1, 0)) (hg : w.grownBy w1 v.ownBlock) (i : Nat) : w1.cell? ⟨B, i, none⟩ = (EngCells E p)[i]? ∧ w1.frozen? ⟨B, i, none⟩ = false := by
  have hb := blk_grown h.blk hg (fun e => hne ((hv B e.symm).symm.trans h.tB))
  exact ⟨zql hb i, zqm hb i⟩
theorem zero_rowL (W : World) : (zeroValue 25).run Try.prog W = .ok (.slice none 0 0) W := by kernel_rfl
theorem EngIn.aside {w w1 : World} {B : Nat} {T : Tag} {E : Eng} {p : EngP} (h : EngIn w B T E p) (hs : w.heap.size ≤ w1.heap.size) (hm : ∀ k, k < w.heap.size → T k ≠ (0, 0) → w1.heap[k]? = w.heap[k]?) : EngIn w1 B T E p := by
  obtain ⟨k1, k2, k3, k4, k5, k6, k7, k8, k9, k10, k11⟩ := h.kept (S := fun t => t = (0, 0)) (T' := T) hm (fun _ _ => rfl)
  have no : ∀ {a b : Int}, a ≠ 0 → ¬ (((a, b) : Int × Int) = (0, 0)) := fun h1 e => h1 (congrArg Prod.fst e)
  exact { fresh := fun k hk => h.fresh k (Nat.le_trans hs hk), blk := k1 (no (by decide)), tB := k2, cls := k3 (no (by decide)), len := h.len, rows := k4 (no (by decide)), tr := k5 (no (by decide)), st := k6 (no (by decide)), ms := k7 (no (by decide)), tM := k8, mst := h.mst, wt := k9 (no (by decide)), tW := k10, grp := fun x => k11 x (no (by decide)), cov := h.cov, wsz := h.wsz }
theorem EngIn.grown {w w1 : World} {B : Nat} {T : Tag} {E : Eng} {p : EngP} (h : EngIn w B T E p) {o : Option Nat} (hg : w.grownBy w1 o) (hv : ∀ k, o = some k → T k = (0, 0)) : EngIn w1 B T E p :=
  h.aside hg.size (fun k hk hn => hg.block k hk (fun e => hn (hv k e.symm)))
structure Sol where
  E : Eng
  n : Int
  all : List (List Int)
  asm : List Int
  log : List S64
  steps : Int
  fuel : Int
structure SolP where
  vA : Value
  hs : List Hd
  aA : Option Addr
  cA : Nat
  vL : Value
  five : Nat → Option Obj
def SolCells (B : Nat) (Z : Sol) (q : SolP) : Array Value := #[.pointer (some ⟨B, 0, none⟩), .int .i64 Z.n, q.vA, .slice q.aA Z.asm.length q.cA, q.vL, .int .i64 Z.steps, .int .i64 Z.fuel]
abbrev Col := Nat → Nat
def okR (w0 : World) (T : Tag) (U : Col) (k : Nat) : Prop := T k = (0, 0) ∧ (U k = 4 ∨ k < w0.heap.size)
structure SolIn (w0 w : World) (S B : Nat) (T : Tag) (U : Col) (Z : Sol) (p : EngP) (q : SolP) : Prop where
  e : EngIn w B T Z.E p
  blk : w.heap[S]? = some (.cells (SolCells B Z q) 57 (0, 0))
  tS : T S = (0, 0)
  uS : U S = 3
  fresh : ∀ k, w.heap.size ≤ k → U k = 0
  all : Kd.R kH 25 w 0 (fun k => T k = (0, 0) ∧ U k = 1) q.vA q.hs
  len : q.hs.length = Z.all.length
  rows : ∀ (i : Nat) (h : Hd) (c : List Int), q.hs[i]? = some h → Z.all[i]? = some c → h.2.1 = c.length ∧ c.length ≤ h.2.2 ∧ Kd.F (Kd.int .i64) w (okR w0 T U) h.1 c.length c
  log : Kd.N k64 64 w 0 (fun k => T k = (0, 0) ∧ U k = 2 ∨ T k = (0, 0) ∧ U k = 4) q.vL Z.log
  uL : ∀ k, q.vL.ownBlock = some k → U k = 2
  asm : Kd.F (Kd.int .i64) w (okR w0 T U) q.aA Z.asm.length Z.asm
  asmc : Z.asm.length ≤ q.cA
  old : Below w0.heap.size w0 w
  t0 : ∀ k, k < w0.heap.size → T k = (0, 0) ∧ U k = 0
  five : ∀ g, U g = 5 → T g = (0, 0) ∧ w.heap[g]? = q.five g
structure MovedS (T : Tag) (U : Col) (T' : Tag) (U' : Col) (w w' : World) : Prop where
  size : w.heap.size ≤ w'.heap.size
  tk : ∀ k, k < w.heap.size → T' k = T k
  uk : ∀ k, k < w.heap.size → U' k = U k ∨ U k = 0 ∧ U' k = 4
  same : ∀ k, k < w.heap.size → T k = (0, 0) → (U k ≠ 1 ∧ U k ≠ 2 ∧ U k ≠ 3) → w'.heap[k]? = w.heap[k]?
def SolPost (w0 : World) (S B : Nat) (T : Tag) (U : Col) (Z' : Sol) (w w' : World) : Prop := ∃ T' U' p' q', SolIn w0 w' S B T' U' Z' p' q' ∧ MovedS T U T' U' w w'
def PutPost (w0 : World) (S B : Nat) (T : Tag) (U : Col) (Z' : Sol) (w w' : World) : Prop := ∃ T' U' p' q', SolIn w0 w' S B T' U' Z' p' q' ∧ MovedS T U T' U' w w' ∧ ∀ k, k < w.heap.size → U' k = U k
theorem MovedS.refl (T : Tag) (U : Col) (w : World) : MovedS T U T U w w := ⟨zqx _, fun _ _ => rfl, fun _ _ => .inl rfl, fun _ _ _ _ => rfl⟩
theorem MovedS.ukn {T T' : Tag} {U U' : Col} {w w' : World} (h : MovedS T U T' U' w w') (k : Nat) (hk : k < w.heap.size) (hn : U k ≠ 0) : U' k = U k := (h.uk k hk).resolve_right (fun e => hn e.1)
theorem MovedS.of_below {T : Tag} {U : Col} {w w' : World} (h : Below w.heap.size w w') : MovedS T U T U w w' := ⟨h.size, fun _ _ => rfl, fun _ _ => .inl rfl, fun k hk _ _ => h.block k hk⟩
section
variable {w0 w w1 : World} {S B : Nat} {T T' : Tag} {U U' : Col} {Z : Sol} {p p' : EngP} {q : SolP}
theorem SolIn.lt (h : SolIn w0 w S B T U Z p q) : S < w.heap.size := blk_lt h.blk
theorem SolIn.aside (h : SolIn w0 w S B T U Z p q) (hs : w.heap.size ≤ w1.heap.size) (hm : ∀ k, k < w.heap.size → (T k ≠ (0, 0) ∨ U k ≠ 0 ∨ k < w0.heap.size) → w1.heap[k]? = w.heap[k]?) (hf : w1.os = w.os ∧ w1.tape = w.tape ∧ w1.output = w.output) : SolIn w0 w1 S B T U Z p q where
  e := h.e.aside hs (fun k hk hn => hm k hk (.inl hn))
  blk := (hm S h.lt (.inr (.inl (by rw [h.uS]; decide)))).trans h.blk
  tS := h.tS
  uS := h.uS
  fresh k hk := h.fresh k (Nat.le_trans hs hk)
  all := Kd.R_step h.all (fun k hk hlt => hm k hlt (.inr (.inl (by rw [hk.2]; decide))))
  len := h.len
  rows i a c ha hc := ⟨(h.rows i a c ha hc).1, (h.rows i a c ha hc).2.1, Kd.F_step (h.rows i a c ha hc).2.2 (fun k hk hlt => hm k hlt (.inr (hk.2.imp (fun e => by rw [e]; decide) id)))⟩
  log := Kd.N_step h.log (fun k hk hlt => hm k hlt (.inr (hk.elim (fun e => .inl (by rw [e.2]; decide)) (fun e => .inl (by rw [e.2]; decide)))))
  uL := h.uL
  asm := Kd.F_step h.asm (fun k hk hlt => hm k hlt (.inr (hk.2.imp (fun e => by rw [e]; decide) id)))
  asmc := h.asmc
  old := ⟨hf.1.trans h.old.os, hf.2.1.trans h.old.tape, hf.2.2.trans h.old.output, Nat.le_trans h.old.size hs, fun k hk => (hm k (Nat.lt_of_lt_of_le hk h.old.size) (.inr (.inr hk))).trans (h.old.block k hk)⟩
  t0 := h.t0
  five g hg := ⟨(h.five g hg).1, (hm g (Nat.lt_of_not_le fun hle => by have := h.fresh g hle; rw [hg] at this; cases this) (.inr (.inl (by rw [hg]; decide)))).trans (h.five g hg).2⟩
theorem SolIn.below (h : SolIn w0 w S B T U Z p q) (hb : Below w.heap.size w w1) : SolIn w0 w1 S B T U Z p q := h.aside hb.size (fun k hk _ => hb.block k hk) ⟨hb.os, hb.tape, hb.output⟩
theorem SolIn.grown (h : SolIn w0 w S B T U Z p q) {o : Option Nat} (hg : w.grownBy w1 o) (hv : ∀ k, o = some k → T k = (0, 0) ∧ U k = 0 ∧ w0.heap.size ≤ k) : SolIn w0 w1 S B T U Z p q :=
  h.aside hg.size (fun k hk hn => hg.block k hk (fun e => by
    obtain ⟨h1, h2, h3⟩ := hv k e.symm
    rcases hn with hn | hn | hn
    · exact hn h1
    · exact hn h2
    · omega)) ⟨hg.os, hg.tape, hg.output⟩
theorem SolIn.moved (h : SolIn w0 w S B T U Z p q) {E' : Eng} (he : EngIn w1 B T' E' p') (m : Moved T T' w w1) : SolIn w0 w1 S B T' U { Z with E := E' } p' q ∧ MovedS T U T' U w w1 := by
  have hm : ∀ k, k < w.heap.size → T k = (0, 0) → w1.heap[k]? = w.heap[k]? := fun k hk e => (m.old k hk).2 e
  have hT : ∀ k, k < w.heap.size → T' k = T k := fun k hk => (m.old k hk).1
  have hok : ∀ k, okR w0 T U k ∧ k < w.heap.size → okR w0 T' U k := fun k hk => ⟨(hT k hk.2).trans hk.1.1, hk.1.2⟩
  refine ⟨{ e := he, blk := (hm S h.lt h.tS).trans h.blk, tS := (hT S h.lt).trans h.tS, uS := h.uS, fresh := fun k hk => h.fresh k (Nat.le_trans m.size hk), all := ?_, len := h.len, rows := fun i a c ha hc => ⟨(h.rows i a c ha hc).1, (h.rows i a c ha hc).2.1, ?_⟩, log := ?_, uL := h.uL, asm := ?_, asmc := h.asmc, old := ⟨m.os.trans h.old.os, m.tape.trans h.old.tape, m.output.trans h.old.output, Nat.le_trans h.old.size m.size, fun k hk => (hm k (Nat.lt_of_lt_of_le hk h.old.size) (h.t0 k hk).1).trans (h.old.block k hk)⟩, t0 := fun k hk => ⟨(hT k (Nat.lt_of_lt_of_le hk h.old.size)).trans (h.t0 k hk).1, (h.t0 k hk).2⟩, five := fun g hg => (by
    have hl : g < w.heap.size := Nat.lt_of_not_le fun hle => by have := h.fresh g hle; rw [hg] at this; cases this
    exact ⟨(hT g hl).trans (h.five g hg).1, (hm g hl (h.five g hg).1).trans (h.five g hg).2⟩) }, ⟨m.size, hT, fun _ _ => .inl rfl, fun k hk e _ => hm k hk e⟩⟩
  · exact Kd.R_mono (Kd.R_step (Kd.R_bound h.all) (fun k hk hlt => hm k hlt hk.1.1)) (fun k hk => ⟨(hT k hk.2.2.1).trans hk.1.1, hk.1.2⟩)
  · exact Kd.F_mono (Kd.F_step (Kd.F_bound (h.rows i a c ha hc).2.2) (fun k hk hlt => hm k hlt hk.1.1)) hok
  · exact Kd.N_mono (Kd.N_step (Kd.N_bound h.log) (fun k hk hlt => hm k hlt (hk.1.elim (fun e => e.1) (fun e => e.1)))) (fun k hk => hk.1.imp (fun e => ⟨(hT k hk.2).trans e.1, e.2⟩) (fun e => ⟨(hT k hk.2).trans e.1, e.2⟩))
  · exact Kd.F_mono (Kd.F_step (Kd.F_bound h.asm) (fun k hk hlt => hm k hlt hk.1.1)) hok
theorem MovedS.trans {T'' : Tag} {U'' : Col} {w2 : World} (h : MovedS T U T' U' w w1) (k : MovedS T' U' T'' U'' w1 w2) : MovedS T U T'' U'' w w2 :=
  ⟨Nat.le_trans h.size k.size, fun i hi => (k.tk i (Nat.lt_of_lt_of_le hi h.size)).trans (h.tk i hi), fun i hi => by
    rcases h.uk i hi with e | ⟨e0, e4⟩
    · rcases k.uk i (Nat.lt_of_lt_of_le hi h.size) with f | ⟨f0, f4⟩
      · exact .inl (f.trans e)
      · exact .inr ⟨e.symm.trans f0, f4⟩
    · exact .inr ⟨e0, (k.ukn i (Nat.lt_of_lt_of_le hi h.size) (by rw [e4]; decide)).trans e4⟩, fun i hi ht hu => by
    refine (k.same i (Nat.lt_of_lt_of_le hi h.size) ((h.tk i hi).trans ht) ?_).trans (h.same i hi ht hu)
    rcases h.uk i hi with e | ⟨_, e4⟩
    · rw [e]; exact hu
    · rw [e4]; decide⟩
theorem MovedS.keeps (h : SolIn w0 w S B T U Z p q) (m : MovedS T U T' U' w w1) : ∀ g, U g = 5 → w1.heap[g]? = w.heap[g]? := fun g hg =>
  m.same g (Nat.lt_of_not_le fun hle => by have := h.fresh g hle; rw [hg] at this; cases this) (h.five g hg).1 (by rw [hg]; decide)
theorem SolIn.row_moved (h : SolIn w0 w S B T U Z p q) (m : MovedS T U T' U' w w1) {A : Option Addr} {n : Nat} {xs : List Int} (hF : Kd.F (Kd.int .i64) w (okR w0 T U) A n xs) : Kd.F (Kd.int .i64) w1 (okR w0 T' U') A n xs :=
  Kd.F_mono (Kd.F_step (Kd.F_bound hF) (fun k hk hl => m.same k hl hk.1.1 (hk.1.2.elim (fun e => by rw [e]; decide) (fun e => by rw [(h.t0 k e).2]; decide)))) (fun k hk => ⟨(m.tk k hk.2).trans hk.1.1, hk.1.2.imp (fun e => (m.ukn k hk.2 (by rw [e]; decide)).trans e) id⟩)
theorem SolIn.cells (h : SolIn w0 w S B T U Z p q) : w.cell? ⟨S, 0, none⟩ = some (.pointer (some ⟨B, 0, none⟩)) ∧ w.cell? ⟨S, 1, none⟩ = some (.int .i64 Z.n) ∧ w.cell? ⟨S, 2, none⟩ = some q.vA ∧ w.cell? ⟨S, 3, none⟩ = some (.slice q.aA Z.asm.length q.cA) ∧ w.cell? ⟨S, 4, none⟩ = some q.vL ∧ w.cell? ⟨S, 5, none⟩ = some (.int .i64 Z.steps) ∧ w.cell? ⟨S, 6, none⟩ = some (.int .i64 Z.fuel) ∧ ∀ i, w.frozen? ⟨S, i, none⟩ = false :=
  ⟨zql h.blk 0, zql h.blk 1, zql h.blk 2, zql h.blk 3, zql h.blk 4, zql h.blk 5, zql h.blk 6, fun i => zqm h.blk i⟩
theorem SolIn.row_moved4 (m : MovedS T U T' U' w w1) {A : Option Addr} {n : Nat} {xs : List Int} (hF : Kd.F (Kd.int .i64) w (fun k => T k = (0, 0) ∧ U k = 4) A n xs) : Kd.F (Kd.int .i64) w1 (fun k => T' k = (0, 0) ∧ U' k = 4) A n xs :=
  Kd.F_mono (Kd.F_step (Kd.F_bound hF) (fun k hk hl => m.same k hl hk.1.1 (by rw [hk.1.2]; decide))) (fun k hk => ⟨(m.tk k hk.2).trans hk.1.1, (m.ukn k hk.2 (by rw [hk.1.2]; decide)).trans hk.1.2⟩)
theorem SolIn.row_ok {A : Option Addr} {n : Nat} {xs : List Int} (hF : Kd.F (Kd.int .i64) w (fun k => T k = (0, 0) ∧ U k = 4) A n xs) : Kd.F (Kd.int .i64) w (okR w0 T U) A n xs := Kd.F_mono hF (fun k hk => ⟨hk.1, .inl hk.2⟩)
theorem SolIn.row (h : SolIn w0 w S B T U Z p q) (n : Nat) (hn : n < Z.all.length) : ∃ ad k A c, q.vA = .slice (some ad) Z.all.length k ∧ w.cell? (ad.add n) = some (.slice A Z.all[n].length c) ∧ Z.all[n].length ≤ c ∧ Kd.F (Kd.int .i64) w (okR w0 T U) A Z.all[n].length Z.all[n] := by
  obtain ⟨A0, k, e0⟩ := Kd.R_slice h.all
  have hR := h.all
  rw [e0] at hR
  obtain ⟨_, h2, h3⟩ := Kd.R_reads' hR
  have hl := h.len
  obtain ⟨ad, e1, hc⟩ := h3.2.2 (by omega)
  have hn' : n < q.hs.length := by omega
  obtain ⟨c, hcl, hK, hcc⟩ := hc n q.hs[n] (List.getElem?_eq_getElem hn')
  obtain ⟨r1, r2, r3⟩ := h.rows n _ _ (List.getElem?_eq_getElem hn') (List.getElem?_eq_getElem hn)
  refine ⟨ad, k, q.hs[n].1, q.hs[n].2.2, by rw [e0, e1, hl], ?_, r2, r3⟩
  have := hcc 0 (hdv q.hs[n]) (by rw [show c = [hdv q.hs[n]] from hK]; rfl)
  rw [hdv, r1] at this
  have this : w.cell? (ad.add (n * 1 + 0)) = some (.slice q.hs[n].1 Z.all[n].length q.hs[n].2.2) := this
  simpa using this
end
section
variable {w0 W w1 : World} {S B : Nat} {T : Tag} {U : Col} {Z : Sol} {p : EngP} {q : SolP}
def paint (U : Col) (v : Value) (c : Nat) : Col := fun k => if v.ownBlock = some k then c else U k
theorem SolIn.color (h : SolIn w0 W S B T U Z p q) {v : Value} {cl : List Int} (hR : Kd.R (Kd.int .i64) 3 W w0.heap.size (fun k => T k = (0, 0) ∧ U k = 0) v cl) :
    SolIn w0 W S B T (paint U v 4) Z p q ∧ MovedS T U T (paint U v 4) W W ∧ ∀ A c, v = .slice A cl.length c → Kd.F (Kd.int .i64) W (fun k => T k = (0, 0) ∧ paint U v 4 k = 4) A cl.length cl := by
  have hp : ∀ k, U k ≠ 0 → paint U v 4 k = U k := fun k hk => if_neg (fun e => hk (hR.1 k e).2)
  have hok : ∀ k, okR w0 T U k → okR w0 T (paint U v 4) k := fun k hk => ⟨hk.1, hk.2.imp (fun e => (hp k (by rw [e]; decide)).trans e) id⟩
  have hlt : ∀ k, v.ownBlock = some k → k < W.heap.size := fun k e => Kd.R_lt hR k e
  refine ⟨{ e := h.e, blk := h.blk, tS := h.tS, uS := (hp S (by rw [h.uS]; decide)).trans h.uS, fresh := fun k hk => (if_neg (fun e => by have := hlt k e; omega)).trans (h.fresh k hk), all := Kd.R_mono h.all (fun k hk => ⟨hk.1, (hp k (by rw [hk.2]; decide)).trans hk.2⟩), len := h.len, rows := fun i a c ha hc => ⟨(h.rows i a c ha hc).1, (h.rows i a c ha hc).2.1, Kd.F_mono (h.rows i a c ha hc).2.2 hok⟩, log := Kd.N_mono h.log (fun k hk => hk.imp (fun e => ⟨e.1, (hp k (by rw [e.2]; decide)).trans e.2⟩) (fun e => ⟨e.1, (hp k (by rw [e.2]; decide)).trans e.2⟩)), uL := fun k e => (hp k (by rw [h.uL k e]; decide)).trans (h.uL k e), asm := Kd.F_mono h.asm hok, asmc := h.asmc, old := h.old, t0 := fun k hk => ⟨(h.t0 k hk).1, (if_neg (fun e => by have := Kd.R_base hR k e; omega)).trans (h.t0 k hk).2⟩, five := fun g hg => (by
    have hg : (if v.ownBlock = some g then 4 else U g) = 5 := hg
    split at hg
    · cases hg
    · exact h.five g hg) }, ⟨zqx _, fun _ _ => rfl, fun k _ => by
    by_cases e : v.ownBlock = some k
    · exact .inr ⟨(hR.1 k e).2, if_pos e⟩
    · exact .inl (if_neg e), fun _ _ _ _ => rfl⟩, fun A c e => ?_⟩
  subst e
  refine Kd.R_F (Kd.R_of_own (Kd.own_of_R hR) (fun k hk => ⟨(hR.1 k hk).1, if_pos hk⟩))
theorem SolIn.own5 (h : SolIn w0 W S B T U Z p q) (g : Nat) (hg : w0.heap.size ≤ g) (hl : g < W.heap.size) (hu : U g = 0) (ht : T g = (0, 0)) : SolIn w0 W S B T (fun k => if k = g then 5 else U k) Z p { q with five := fun k => if k = g then W.heap[g]? else q.five k } := by
  have hp : ∀ k, U k ≠ 0 → (if k = g then 5 else U k) = U k := fun k hk => if_neg (fun e => hk (by rw [e]; exact hu))
  have hok : ∀ k, okR w0 T U k → okR w0 T (fun k => if k = g then 5 else U k) k := fun k hk => ⟨hk.1, hk.2.imp (fun e => (hp k (by rw [e]; decide)).trans e) id⟩
  exact { e := h.e, blk := h.blk, tS := h.tS, uS := (hp S (by rw [h.uS]; decide)).trans h.uS, fresh := fun k hk => (if_neg (fun e => by omega)).trans (h.fresh k hk), all := Kd.R_mono h.all (fun k hk => ⟨hk.1, (hp k (by rw [hk.2]; decide)).trans hk.2⟩), len := h.len, rows := fun i a c ha hc => ⟨(h.rows i a c ha hc).1, (h.rows i a c ha hc).2.1, Kd.F_mono (h.rows i a c ha hc).2.2 hok⟩, log := Kd.N_mono h.log (fun k hk => hk.imp (fun e => ⟨e.1, (hp k (by rw [e.2]; decide)).trans e.2⟩) (fun e => ⟨e.1, (hp k (by rw [e.2]; decide)).trans e.2⟩)), uL := fun k e => (hp k (by rw [h.uL k e]; decide)).trans (h.uL k e), asm := Kd.F_mono h.asm hok, asmc := h.asmc, old := h.old, t0 := fun k hk => ⟨(h.t0 k hk).1, (if_neg (fun e => by omega)).trans (h.t0 k hk).2⟩, five := fun k hk => (by
    have hk : (if k = g then 5 else U k) = 5 := hk
    show T k = (0, 0) ∧ W.heap[k]? = (if k = g then W.heap[g]? else q.five k)
    by_cases e : k = g
    · rw [if_pos e, e]; exact ⟨ht, rfl⟩
    · rw [if_neg e] at hk ⊢; exact h.five k hk) }
def paintN (U : Col) (W w1 : World) (v : Value) (c : Nat) : Col := fun k => if v.ownBlock = some k then c else if W.heap.size ≤ k ∧ k < w1.heap.size then 4 else U k
theorem SolIn.turn_log (h : SolIn w0 W S B T U Z p q) {v1 : Value} {log : List S64} (hN : Kd.N k64 64 w1 0 (fun k => (T k = (0, 0) ∧ U k = 2 ∨ T k = (0, 0) ∧ U k = 4) ∨ W.heap.size ≤ k) v1 log) (hg : W.grownBy w1 q.vL.ownBlock) (hat : v1.ownBlock = q.vL.ownBlock ∨ ∃ b, v1.ownBlock = some b ∧ W.heap.size ≤ b) :
    SolIn w0 (w1.setCell ⟨S, 4, none⟩ v1) S B T (paintN U W w1 v1 2) { Z with log := log } p { q with vL := v1 } ∧ MovedS T U T (paintN U W w1 v1 2) W (w1.setCell ⟨S, 4, none⟩ v1) ∧ ∀ k, k < W.heap.size → paintN U W w1 v1 2 k = U k := by
  have hS := h.lt
  have hlt := Kd.N_lt hN
  have hsz := hg.size
  have hU : ∀ k, k < W.heap.size → paintN U W w1 v1 2 k = U k := fun k hk => by
    unfold paintN
    by_cases e : v1.ownBlock = some k
    · rw [if_pos e]
      rcases hat with e2 | ⟨b, e2, hb⟩
      · exact (h.uL k (e2.symm.trans e)).symm
      · rw [e2] at e; injection e with e; omega
    · rw [if_neg e, if_neg (fun h => by omega)]
  have hm : ∀ k, k < W.heap.size → U k ≠ 3 → U k ≠ 2 → (w1.setCell ⟨S, 4, none⟩ v1).heap[k]? = W.heap[k]? := fun k hk h3 h2 => by
    rw [Below.heap_setCell w1 _ v1 k (fun e => h3 (by rw [e]; exact h.uS))]
    exact hg.block k hk (fun e => h2 (h.uL k e.symm))
  have h0 : ∀ k, k < w0.heap.size → U k ≠ 3 ∧ U k ≠ 2 := fun k hk => by rw [(h.t0 k hk).2]; decide
  have hT : ∀ k, W.heap.size ≤ k → T k = (0, 0) := h.e.fresh
  have hok : ∀ k, okR w0 T U k → k < W.heap.size → okR w0 T (paintN U W w1 v1 2) k := fun k hk hl => ⟨hk.1, hk.2.imp (fun e => (hU k hl).trans e) id⟩
  have hokm : ∀ k, okR w0 T U k → U k ≠ 3 ∧ U k ≠ 2 := fun k hk => hk.2.elim (fun e => by rw [e]; decide) (h0 k)
  have hF : ∀ {A : Option Addr} {n : Nat} {xs : List Int}, Kd.F (Kd.int .i64) W (okR w0 T U) A n xs → Kd.F (Kd.int .i64) (w1.setCell ⟨S, 4, none⟩ v1) (okR w0 T (paintN U W w1 v1 2)) A n xs := fun hf =>
    Kd.F_mono (Kd.F_step (Kd.F_bound hf) (fun k hk hl => hm k hl (hokm k hk.1).1 (hokm k hk.1).2)) (fun k hk => hok k hk.1 hk.2)
  have hSz : (w1.setCell ⟨S, 4, none⟩ v1).heap.size = w1.heap.size := by simp
  have hne : ∀ k, q.vL.ownBlock = some k → k ≠ S := fun k e e2 => by have := h.uL k e; rw [e2, h.uS] at this; cases this
  have hS3 : some S ≠ q.vL.ownBlock := fun e => hne S e.symm rfl
  refine ⟨{ e := h.e.aside (by rw [hSz]; exact hsz) (fun k hk hn => ?_), blk := blk_put (blk_grown h.blk hg hS3) 4 v1 rfl, tS := h.tS, uS := (hU S hS).trans h.uS, fresh := fun k hk => ?_, all := Kd.R_mono (Kd.R_step (Kd.R_bound h.all) (fun k hk hl => hm k hl (by rw [hk.1.2]; decide) (by rw [hk.1.2]; decide))) (fun k hk => ⟨hk.1.1, (hU k hk.2.2.1).trans hk.1.2⟩), len := h.len, rows := fun i a c ha hc => ⟨(h.rows i a c ha hc).1, (h.rows i a c ha hc).2.1, hF (h.rows i a c ha hc).2.2⟩, log := ?_, uL := fun k e => if_pos e, asm := hF h.asm, asmc := h.asmc, old := (h.old.grown hg h.old.size (fun k e => Nat.le_of_not_lt fun hl => by have := (h.t0 k hl).2; rw [h.uL k e] at this; cases this)).setCell (Nat.le_of_not_lt fun hl => by have := (h.t0 S hl).2; rw [h.uS] at this; cases this) _, t0 := fun k hk => ⟨(h.t0 k hk).1, (hU k (Nat.lt_of_lt_of_le hk h.old.size)).trans (h.t0 k hk).2⟩, five := fun g hg5 => (by
    by_cases hl : g < W.heap.size
    · rw [hU g hl] at hg5
      exact ⟨(h.five g hg5).1, (hm g hl (by rw [hg5]; decide) (by rw [hg5]; decide)).trans (h.five g hg5).2⟩
    · exfalso
      unfold paintN at hg5
      split at hg5
      · cases hg5
      · split at hg5
        · cases hg5
        · rw [h.fresh g (by omega)] at hg5; cases hg5) }, ⟨by rw [hSz]; exact hsz, fun _ _ => rfl, fun k hk => .inl (hU k hk), fun k hk _ hu => hm k hk hu.2.2 hu.2.1⟩, hU⟩
  · by_cases e : k = S
    · rw [e] at hn; exact absurd h.tS hn
    · rw [Below.heap_setCell w1 _ v1 k e]
      refine hg.block k hk (fun e2 => hn ?_)
      have := h.log.1 k e2.symm
      exact this.elim (fun e => e.1) (fun e => e.1)
  · rw [hSz] at hk
    show (if v1.ownBlock = some k then 2 else if W.heap.size ≤ k ∧ k < w1.heap.size then 4 else U k) = 0
    rw [if_neg (fun e => by have := hlt k e; omega), if_neg (fun h => by omega)]
    exact h.fresh k (by omega)
  · have hN2 : Kd.N k64 64 w1 0 (fun k => k ≠ S ∧ (T k = (0, 0) ∧ paintN U W w1 v1 2 k = 2 ∨ T k = (0, 0) ∧ paintN U W w1 v1 2 k = 4)) v1 log := Kd.N_mono (Kd.N_bound hN) (fun k hk => by
      obtain ⟨hk, hl1⟩ := hk
      by_cases hl : k < W.heap.size
      · have hk := hk.resolve_right (by omega)
        refine ⟨fun e => ?_, hk.imp (fun e => ⟨e.1, (hU k hl).trans e.2⟩) (fun e => ⟨e.1, (hU k hl).trans e.2⟩)⟩
        rcases hk with hk | hk
        · rw [e, h.uS] at hk; cases hk.2
        · rw [e, h.uS] at hk; cases hk.2
      · refine ⟨by omega, ?_⟩
        have ht := hT k (by omega)
        by_cases e : v1.ownBlock = some k
        · exact .inl ⟨ht, if_pos e⟩
        · exact .inr ⟨ht, (if_neg e).trans (if_pos ⟨by omega, hl1⟩)⟩)
    exact Kd.N_mono (Kd.N_far hN2 (fun k hk => hk.1) v1) (fun k hk => hk.2)
end
section
variable {w0 W w1 : World} {S B : Nat} {T : Tag} {U : Col} {Z : Sol} {p : EngP} {q : SolP}
theorem SolIn.turn_all (h : SolIn w0 W S B T U Z p q) {v1 : Value} {hd : Hd} {c : List Int} (hc : hd.2.1 = c.length ∧ c.length ≤ hd.2.2 ∧ Kd.F (Kd.int .i64) W (okR w0 T U) hd.1 c.length c) (hR : Kd.R kH 25 w1 0 (fun k => (T k = (0, 0) ∧ U k = 1) ∨ W.heap.size ≤ k) v1 (q.hs ++ [hd])) (hg : W.grownBy w1 q.vA.ownBlock) (hat : v1.ownBlock = q.vA.ownBlock ∨ ∃ b, v1.ownBlock = some b ∧ W.heap.size ≤ b) :
    SolIn w0 (w1.setCell ⟨S, 2, none⟩ v1) S B T (paintN U W w1 v1 1) { Z with all := Z.all ++ [c] } p { q with vA := v1, hs := q.hs ++ [hd] } ∧ MovedS T U T (paintN U W w1 v1 1) W (w1.setCell ⟨S, 2, none⟩ v1) := by
  have hS := h.lt
  have hlt := Kd.R_lt hR
  have hsz := hg.size
  have hU : ∀ k, k < W.heap.size → paintN U W w1 v1 1 k = U k := fun k hk => by
    unfold paintN
    by_cases e : v1.ownBlock = some k
    · rw [if_pos e]
      rcases hat with e2 | ⟨b, e2, hb⟩
      · exact (h.all.1 k (e2.symm.trans e)).2.symm
      · rw [e2] at e; injection e with e; omega
    · rw [if_neg e, if_neg (fun h => by omega)]
  have hm : ∀ k, k < W.heap.size → U k ≠ 3 → U k ≠ 1 → (w1.setCell ⟨S, 2, none⟩ v1).heap[k]? = W.heap[k]? := fun k hk h3 h2 => by
    rw [Below.heap_setCell w1 _ v1 k (fun e => h3 (by rw [e]; exact h.uS))]
    exact hg.block k hk (fun e => h2 (h.all.1 k e.symm).2)
  have h0 : ∀ k, k < w0.heap.size → U k ≠ 3 ∧ U k ≠ 1 := fun k hk => by rw [(h.t0 k hk).2]; decide
  have hT : ∀ k, W.heap.size ≤ k → T k = (0, 0) := h.e.fresh
  have hok : ∀ k, okR w0 T U k → k < W.heap.size → okR w0 T (paintN U W w1 v1 1) k := fun k hk hl => ⟨hk.1, hk.2.imp (fun e => (hU k hl).trans e) id⟩
  have hokm : ∀ k, okR w0 T U k → U k ≠ 3 ∧ U k ≠ 1 := fun k hk => hk.2.elim (fun e => by rw [e]; decide) (h0 k)
  have hF : ∀ {A : Option Addr} {n : Nat} {xs : List Int}, Kd.F (Kd.int .i64) W (okR w0 T U) A n xs → Kd.F (Kd.int .i64) (w1.setCell ⟨S, 2, none⟩ v1) (okR w0 T (paintN U W w1 v1 1)) A n xs := fun hf =>
    Kd.F_mono (Kd.F_step (Kd.F_bound hf) (fun k hk hl => hm k hl (hokm k hk.1).1 (hokm k hk.1).2)) (fun k hk => hok k hk.1 hk.2)
  have hSz : (w1.setCell ⟨S, 2, none⟩ v1).heap.size = w1.heap.size := by simp
  have hS3 : some S ≠ q.vA.ownBlock := fun e => by have := (h.all.1 S e.symm).2; rw [h.uS] at this; cases this
  have hvS : ∀ k, v1.ownBlock = some k → k ≠ S := fun k e e2 => by
    rcases hat with e3 | ⟨b, e3, hb⟩
    · exact hS3 (by rw [← e2, ← e, e3])
    · rw [e3] at e; injection e with e; omega
  refine ⟨{ e := h.e.aside (by rw [hSz]; exact hsz) (fun k hk hn => ?_), blk := blk_put (blk_grown h.blk hg hS3) 2 v1 rfl, tS := h.tS, uS := (hU S hS).trans h.uS, fresh := fun k hk => ?_, all := ?_, len := by simp [h.len], rows := fun i a d ha hd2 => ?_, log := ?_, uL := fun k e => (hU k (Kd.N_lt h.log k e)).trans (h.uL k e), asm := hF h.asm, asmc := h.asmc, old := (h.old.grown hg h.old.size (fun k e => Nat.le_of_not_lt fun hl => by have := (h.t0 k hl).2; rw [(h.all.1 k e).2] at this; cases this)).setCell (Nat.le_of_not_lt fun hl => by have := (h.t0 S hl).2; rw [h.uS] at this; cases this) _, t0 := fun k hk => ⟨(h.t0 k hk).1, (hU k (Nat.lt_of_lt_of_le hk h.old.size)).trans (h.t0 k hk).2⟩, five := fun g hg5 => (by
    by_cases hl : g < W.heap.size
    · rw [hU g hl] at hg5
      exact ⟨(h.five g hg5).1, (hm g hl (by rw [hg5]; decide) (by rw [hg5]; decide)).trans (h.five g hg5).2⟩
    · exfalso
      unfold paintN at hg5
      split at hg5
      · cases hg5
      · split at hg5
        · cases hg5
        · rw [h.fresh g (by omega)] at hg5; cases hg5) }, ⟨by rw [hSz]; exact hsz, fun _ _ => rfl, fun k hk => .inl (hU k hk), fun k hk _ hu => hm k hk hu.2.2 hu.1⟩⟩
  · by_cases e : k = S
    · rw [e] at hn; exact absurd h.tS hn
    · rw [Below.heap_setCell w1 _ v1 k e]
      exact hg.block k hk (fun e2 => hn (h.all.1 k e2.symm).1)
  · rw [hSz] at hk
    show (if v1.ownBlock = some k then 1 else if W.heap.size ≤ k ∧ k < w1.heap.size then 4 else U k) = 0
    rw [if_neg (fun e => by have := hlt k e; omega), if_neg (fun h => by omega)]
    exact h.fresh k (by omega)
  · refine Kd.R_far (Kd.R_mono (Kd.R_of_own (Kd.own_of_R hR) (ok := fun k => k ≠ S ∧ T k = (0, 0) ∧ paintN U W w1 v1 1 k = 1) (fun k e => ⟨hvS k e, ?_, if_pos e⟩)) (fun _ hk => hk)) (fun k hk => hk.1) v1 |> fun h => Kd.R_mono h (fun k hk => hk.2)
    rcases hR.1 k e with h1 | h1
    · exact h1.1
    · exact hT k h1
  · have ha : (q.hs ++ [hd])[i]? = some a := ha
    have hd2 : (Z.all ++ [c])[i]? = some d := hd2
    rw [List.getElem?_append] at ha hd2
    rw [h.len] at ha
    split at ha
    · rename_i hlt2
      rw [if_pos hlt2] at hd2
      exact ⟨(h.rows i a d ha hd2).1, (h.rows i a d ha hd2).2.1, hF (h.rows i a d ha hd2).2.2⟩
    · rename_i hlt2
      rw [if_neg hlt2] at hd2
      have hi0 : i - Z.all.length = 0 := by have := (List.getElem?_eq_some_iff.1 hd2).1; simp at this; omega
      rw [hi0] at ha hd2
      simp at ha hd2
      rw [← ha, ← hd2]
      exact ⟨hc.1, hc.2.1, hF hc.2.2⟩
  · refine Kd.N_mono (Kd.N_step (Kd.N_bound h.log) (fun k hk hl => ?_)) (fun k hk => hk.1.imp (fun e => ⟨e.1, (hU k hk.2).trans e.2⟩) (fun e => ⟨e.1, (hU k hk.2).trans e.2⟩))
    rcases hk.1 with e | e
    · exact hm k hl (by rw [e.2]; decide) (by rw [e.2]; decide)
    · exact hm k hl (by rw [e.2]; decide) (by rw [e.2]; decide)
end
end Go.Proofs.Ytaibnbhgjnddnaa.P
