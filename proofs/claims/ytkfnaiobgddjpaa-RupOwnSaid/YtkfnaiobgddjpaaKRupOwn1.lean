import Derived.Test.YtkfnaiobgddjpaaKRupOwnW
import Derived.Test.YtkfnaiobgddjpaaProg
import Derived.Below
import Derived.Deep.Draws
import Derived.Deep.AppendLies
import Derived.Maps.AppendAt
import Derived.OwnWalk
import Derived.Laws.BytesArg
import Derived.Laws.MakeOwn
import Derived.Laws.OwnMore
import Derived.Deep.OwnRows
import Derived.Tactics
import Derived.Lib.ConvBytes
import Derived.Laws.Slices
import Derived.WalkKit
import Derived.KernelRfl
import Derived.RowKit3
import Derived.Deep.LoopGhost
import Derived.Deep.QuietTactic
import Derived.BigQuiet
import Derived.WideLaws
import Derived.Deep.DeepCutAuto
import Derived.Deep.CutBlock
import Derived.Deep.RegionHeld3
import Derived.Laws.Rows
import Derived.Lib.AppendStr
import Derived.ArgAppend
import Derived.Laws.IdiomCopy
import Derived.OrdersHeld
import Derived.Laws.BitsLemmas
import Derived.RowKit
-- Printed by wip/tools/pp.py of this claim's session (over the kit's print.py); Lean checks it.
namespace Go.Proofs.Ytkfnaiobgddjpaa.P
open Go.RowKit Go.Proofs.YtkfnaiobgddjpaaW.PrintWords Go.Proofs.YtkfnaiobgddjpaaW.PrintLast Go.Proofs.YtkfnaiobgddjpaaW.PrintMore
attribute [local go_sem] max2_int min2_int max_two min_two max_three min_three max_four min_four   -- for this text's walks alone
set_option linter.unusedVariables false
set_option linter.unusedSimpArgs false



def errW : Option Int → Value
  | none => .nilIface
  | some c => .iface 0 (.int .i64 c)
theorem errW_none : errW none = .nilIface := rfl
theorem errW_some (c : Int) : errW (some c) = .iface 0 (.int .i64 c) := rfl

theorem info3 : (Try.prog.info? 3).map (fun i => (i.zero, i.size, i.bytes)) = some (some (.int .i64 0), 1, 8) := by kernel_rfl
theorem info4 : (Try.prog.info? 4).map (fun i => (i.zero, i.size, i.bytes)) = some (some (.bool false), 1, 1) := by kernel_rfl
theorem info23 : (Try.prog.info? 23).map (fun i => (i.zero, i.size, i.bytes)) = some (some (.slice none 0 0), 1, 24) := by kernel_rfl
theorem info43 : (Try.prog.info? 43).map (fun i => (i.zero, i.size, i.bytes)) = some (some (.slice none 0 0), 1, 24) := by kernel_rfl
theorem info64 : (Try.prog.info? 64).map (fun i => (i.zero, i.size, i.bytes)) = some (some (.agg #[(.bool false), (.slice none 0 0)]), 2, 32) := by kernel_rfl
-- the values' own types
def rd_L3 (xs : List (List Int)) (i : Int) : (List Int) := xs.getD i.toNat ([] : List Int)
theorem at_L3 {w : World} {A : Option Addr} {n : Nat} {xs : List (List Int)} (h : Kd.C (Kd.slice 3 (Kd.int .i64)) w A n xs) (i : Int) (h0 : 0 ≤ i) (h1 : i < n) : ∃ ad A0 c0, A = some ad ∧ w.cell? (ad.add i.toNat) = some (.slice A0 (rd_L3 xs i).length c0) ∧ (rd_L3 xs i).length ≤ c0 ∧ (Kd.int .i64).C w A0 (rd_L3 xs i).length (rd_L3 xs i) := by
  obtain ⟨ad, c, e, _, hK, hc0⟩ := Kd.C_get h ([] : List Int) i h0 h1
  have hc : ∀ j u, c[j]? = some u → w.cell? (ad.add (i.toNat * 1 + j)) = some u := hc0
  obtain ⟨A0, c0, rfl, l0, g0⟩ := hK
  exact ⟨ad, A0, c0, e, by have hq := hc 0 _ rfl; rwa [Nat.mul_one, Nat.add_zero] at hq, l0, g0⟩

def rd_L4 (xs : List (List Bool)) (i : Int) : (List Bool) := xs.getD i.toNat ([] : List Bool)
theorem at_L4 {w : World} {A : Option Addr} {n : Nat} {xs : List (List Bool)} (h : Kd.C (Kd.slice 4 Kd.bool) w A n xs) (i : Int) (h0 : 0 ≤ i) (h1 : i < n) : ∃ ad A0 c0, A = some ad ∧ w.cell? (ad.add i.toNat) = some (.slice A0 (rd_L4 xs i).length c0) ∧ (rd_L4 xs i).length ≤ c0 ∧ Kd.bool.C w A0 (rd_L4 xs i).length (rd_L4 xs i) := by
  obtain ⟨ad, c, e, _, hK, hc0⟩ := Kd.C_get h ([] : List Bool) i h0 h1
  have hc : ∀ j u, c[j]? = some u → w.cell? (ad.add (i.toNat * 1 + j)) = some u := hc0
  obtain ⟨A0, c0, rfl, l0, g0⟩ := hK
  exact ⟨ad, A0, c0, e, by have hq := hc 0 _ rfl; rwa [Nat.mul_one, Nat.add_zero] at hq, l0, g0⟩

def rd_L5 (xs : List (List ByteArray)) (i : Int) : (List ByteArray) := xs.getD i.toNat ([] : List ByteArray)
theorem at_L5 {w : World} {A : Option Addr} {n : Nat} {xs : List (List ByteArray)} (h : Kd.C (Kd.slice 9 Kd.string) w A n xs) (i : Int) (h0 : 0 ≤ i) (h1 : i < n) : ∃ ad A0 c0, A = some ad ∧ w.cell? (ad.add i.toNat) = some (.slice A0 (rd_L5 xs i).length c0) ∧ (rd_L5 xs i).length ≤ c0 ∧ Kd.string.C w A0 (rd_L5 xs i).length (rd_L5 xs i) := by
  obtain ⟨ad, c, e, _, hK, hc0⟩ := Kd.C_get h ([] : List ByteArray) i h0 h1
  have hc : ∀ j u, c[j]? = some u → w.cell? (ad.add (i.toNat * 1 + j)) = some u := hc0
  obtain ⟨A0, c0, rfl, l0, g0⟩ := hK
  exact ⟨ad, A0, c0, e, by have hq := hc 0 _ rfl; rwa [Nat.mul_one, Nat.add_zero] at hq, l0, g0⟩

def rd_L6 (xs : List (List (List Int))) (i : Int) : (List (List Int)) := xs.getD i.toNat ([] : List (List Int))
theorem at_L6 {w : World} {A : Option Addr} {n : Nat} {xs : List (List (List Int))} (h : Kd.C (Kd.slice 43 (Kd.slice 3 (Kd.int .i64))) w A n xs) (i : Int) (h0 : 0 ≤ i) (h1 : i < n) : ∃ ad A0 c0, A = some ad ∧ w.cell? (ad.add i.toNat) = some (.slice A0 (rd_L6 xs i).length c0) ∧ (rd_L6 xs i).length ≤ c0 ∧ (Kd.slice 3 (Kd.int .i64)).C w A0 (rd_L6 xs i).length (rd_L6 xs i) := by
  obtain ⟨ad, c, e, _, hK, hc0⟩ := Kd.C_get h ([] : List (List Int)) i h0 h1
  have hc : ∀ j u, c[j]? = some u → w.cell? (ad.add (i.toNat * 1 + j)) = some u := hc0
  obtain ⟨A0, c0, rfl, l0, g0⟩ := hK
  exact ⟨ad, A0, c0, e, by have hq := hc 0 _ rfl; rwa [Nat.mul_one, Nat.add_zero] at hq, l0, g0⟩

def rd_L7 (xs : List (List (List Bool))) (i : Int) : (List (List Bool)) := xs.getD i.toNat ([] : List (List Bool))
theorem at_L7 {w : World} {A : Option Addr} {n : Nat} {xs : List (List (List Bool))} (h : Kd.C (Kd.slice 23 (Kd.slice 4 Kd.bool)) w A n xs) (i : Int) (h0 : 0 ≤ i) (h1 : i < n) : ∃ ad A0 c0, A = some ad ∧ w.cell? (ad.add i.toNat) = some (.slice A0 (rd_L7 xs i).length c0) ∧ (rd_L7 xs i).length ≤ c0 ∧ (Kd.slice 4 Kd.bool).C w A0 (rd_L7 xs i).length (rd_L7 xs i) := by
  obtain ⟨ad, c, e, _, hK, hc0⟩ := Kd.C_get h ([] : List (List Bool)) i h0 h1
  have hc : ∀ j u, c[j]? = some u → w.cell? (ad.add (i.toNat * 1 + j)) = some u := hc0
  obtain ⟨A0, c0, rfl, l0, g0⟩ := hK
  exact ⟨ad, A0, c0, e, by have hq := hc 0 _ rfl; rwa [Nat.mul_one, Nat.add_zero] at hq, l0, g0⟩

/-! #### struct type 64 -/
structure S64 where
  f0 : Bool
  f1 : (List Int)
def z64 : S64 := ⟨false, ([] : List Int)⟩
def k64 : Kd S64 := Kd.iso (Kd.pair Kd.bool (Kd.slice 3 (Kd.int .i64))) (fun x : S64 => (x.f0, x.f1))
theorem k64_heap : Kd.Heap k64 := Kd.heap_iso _ (Kd.heap_pair Kd.heap_bool (Kd.heap_slice 3 (Kd.heap_int .i64)))
theorem k64_open {w : World} {x : S64} {cs : List Value} (h : k64.K w x cs) : ∃ A1 c1, cs = [.bool x.f0, .slice A1 x.f1.length c1] ∧ x.f1.length ≤ c1 ∧ (Kd.int .i64).C w A1 x.f1.length x.f1 := by
  obtain ⟨_, _, rfl, rfl, ⟨A1, c1, rfl, l1, g1⟩⟩ := h
  exact ⟨A1, c1, rfl, l1, g1⟩
theorem k64_openM {w : World} {base : Nat} {ok : Nat → Prop} {x : S64} {cs : List Value} (h : k64.M w base ok x cs) : ∃ v1, cs = [.bool x.f0, v1] ∧ (Kd.int .i64).R 3 w base ok v1 x.f1 := by
  obtain ⟨_, _, rfl, rfl, ⟨v1, rfl, g1⟩⟩ := h
  exact ⟨v1, rfl, g1⟩
theorem k64_mk (w : World) (x : S64) {A1 : Option Addr} {c1 : Nat} (l1 : x.f1.length ≤ c1) (g1 : (Kd.int .i64).C w A1 x.f1.length x.f1) : k64.K w x [.bool x.f0, .slice A1 x.f1.length c1] := ⟨[.bool x.f0], [.slice A1 x.f1.length c1], rfl, rfl, ⟨A1, c1, rfl, l1, g1⟩⟩
theorem k64_mkM (w : World) (base : Nat) (ok : Nat → Prop) (x : S64) {v1 : Value} (g1 : (Kd.int .i64).R 3 w base ok v1 x.f1) : k64.M w base ok x [.bool x.f0, v1] := ⟨[.bool x.f0], [v1], rfl, rfl, ⟨v1, rfl, g1⟩⟩
theorem k64_openF {W : World} {ok : Nat → Prop} {x : S64} {cs : List Value} (h : Kd.FK k64 W ok x cs) : ∃ A1 c1, cs = [.bool x.f0, .slice A1 x.f1.length c1] ∧ x.f1.length ≤ c1 ∧ Kd.F (Kd.int .i64) W ok A1 x.f1.length x.f1 := by
  obtain ⟨A1, c1, rfl, l1, _⟩ := k64_open (Kd.FK_now h)
  exact ⟨A1, c1, rfl, l1, (fun W' hW => by obtain ⟨A1_, c1_, he, l1_, g1_⟩ := k64_open (h W' hW); injection (Option.some.inj (show some (Value.slice A1 x.f1.length c1) = some (Value.slice A1_ x.f1.length c1_) from congrArg (fun l => l[1]?) he)) with ha_ _ _; rw [ha_]; exact g1_)⟩
theorem k64_mkF (W : World) (ok : Nat → Prop) (x : S64) {A1 : Option Addr} {c1 : Nat} (l1 : x.f1.length ≤ c1) (g1 : Kd.F (Kd.int .i64) W ok A1 x.f1.length x.f1) : Kd.FK k64 W ok x [.bool x.f0, .slice A1 x.f1.length c1] := fun W2 hW => k64_mk W2 x l1 (g1 W2 hW)
def rd_T64 (xs : List S64) (i : Int) : S64 := xs.getD i.toNat z64
theorem at_T64 {w : World} {A : Option Addr} {n : Nat} {xs : List S64} (h : Kd.C k64 w A n xs) (i : Int) (h0 : 0 ≤ i) (h1 : i < n) : ∃ ad A1 c1, A = some ad ∧ w.cell? (ad.add (i.toNat * 2)) = some (.bool (rd_T64 xs i).f0) ∧ w.cell? ⟨(ad.add (i.toNat * 2)).block, (ad.add (i.toNat * 2)).off + 1, none⟩ = some (.slice A1 (rd_T64 xs i).f1.length c1) ∧ (rd_T64 xs i).f1.length ≤ c1 ∧ (Kd.int .i64).C w A1 (rd_T64 xs i).f1.length (rd_T64 xs i).f1 := by
  obtain ⟨ad, c, e, _, hK, hc0⟩ := Kd.C_get h z64 i h0 h1
  have hc : ∀ j u, c[j]? = some u → w.cell? (ad.add (i.toNat * 2 + j)) = some u := hc0
  obtain ⟨A1, c1, rfl, l1, g1⟩ := k64_open hK
  exact ⟨ad, A1, c1, e, hc 0 _ rfl, by rw [← add_field _ _ 1 (by omega)]; exact hc 1 _ rfl, l1, g1⟩

end Go.Proofs.Ytkfnaiobgddjpaa.P

-- Printed by wip/tools/pp.py of this claim's session (over the kit's print.py); Lean checks it.
namespace Go.Proofs.Ytkfnaiobgddjpaa.P
open Go.RowKit Go.Proofs.YtkfnaiobgddjpaaW.PrintWords Go.Proofs.YtkfnaiobgddjpaaW.PrintLast Go.Proofs.YtkfnaiobgddjpaaW.PrintMore
attribute [local go_sem] max2_int min2_int max_two min_two max_three min_three max_four min_four   -- for this text's walks alone
set_option linter.unusedVariables false
set_option linter.unusedSimpArgs false

/-! ### sequiturlaw23_few: function 37 -/
mutual
def sequiturlaw23_few.j0 : Nat → List (S64) → Bool → Int → List (List Int) → Option (Bool)
  | 0, _, _, _, _ => none
  | k + 1, x1, x22, x362000, x362001 => if x22 = true then (some false) else (sequiturlaw23_few.l0 k x1 x362001 (x362001.length : Int) 0)
def sequiturlaw23_few.l0 : Nat → List (S64) → List (List Int) → Int → Int → Option (Bool)
  | 0, _, _, _, _ => none
  | k + 1, x1, x24, x25, x26 => if x26 < x25 then (if 0 ≤ x26 then (if x26 < (x24.length : Int) then (if ((rd_L3 x24 x26).length : Int) > 70 then (some false) else (sequiturlaw23_few.l0 k x1 x24 x25 (wrap64 (x26 + 1)))) else (none)) else (none)) else (sequiturlaw23_few.l1 k x1 (x1.length : Int) 0)
def sequiturlaw23_few.l1 : Nat → List (S64) → Int → Int → Option (Bool)
  | 0, _, _, _ => none
  | k + 1, x34, x35, x36 => if x36 < x35 then (if 0 ≤ x36 then (if x36 < (x34.length : Int) then (if (((rd_T64 x34 x36).f1).length : Int) > 70 then (some false) else (sequiturlaw23_few.l1 k x34 x35 (wrap64 (x36 + 1)))) else (none)) else (none)) else (some true)
end
def sequiturlaw23_few.f (k : Nat) (a0_0 : Int) (l0_1 : List (List Int)) (l1 : List (S64)) : Option (Bool) := if a0_0 > 40 then (sequiturlaw23_few.j0 k l1 true a0_0 l0_1) else (if (l0_1.length : Int) > 60 then (sequiturlaw23_few.j0 k l1 true a0_0 l0_1) else (sequiturlaw23_few.j0 k l1 (decide ((l1.length : Int) > 30)) a0_0 l0_1))
theorem sequiturlaw23_few.mono_l : ∀ k, (∀ y0 y1 y2 y3, LeO (sequiturlaw23_few.j0 k y0 y1 y2 y3) (sequiturlaw23_few.j0 (k + 1) y0 y1 y2 y3)) ∧ (∀ y0 y1 y2 y3, LeO (sequiturlaw23_few.l0 k y0 y1 y2 y3) (sequiturlaw23_few.l0 (k + 1) y0 y1 y2 y3)) ∧ (∀ y0 y1 y2, LeO (sequiturlaw23_few.l1 k y0 y1 y2) (sequiturlaw23_few.l1 (k + 1) y0 y1 y2))
  | 0 => ⟨fun _ _ _ _ r h => by simp [sequiturlaw23_few.j0] at h, fun _ _ _ _ r h => by simp [sequiturlaw23_few.l0] at h, fun _ _ _ r h => by simp [sequiturlaw23_few.l1] at h⟩
  | k + 1 => by
    obtain ⟨ih0, ih1, ih2⟩ := sequiturlaw23_few.mono_l k
    refine ⟨?_, ?_, ?_⟩
    · intro y0 y1 y2 y3
      unfold sequiturlaw23_few.j0
      repeat' first
      | (with_reducible exact ih0 _ _ _ _)
      | (with_reducible exact ih1 _ _ _ _)
      | (with_reducible exact ih2 _ _ _)
      | (with_reducible exact LeO.refl _)
      | (with_reducible exact LeO.none _)
      | (with_reducible refine LeO.ite ?_ ?_)
      | (with_reducible refine LeO.bind ?_ (fun _ => ?_))
      | exact ih0 _ _ _ _
      | exact ih1 _ _ _ _
      | exact ih2 _ _ _
      | exact LeO.none _
      | refine LeO.ite ?_ ?_
      | refine LeO.bind ?_ (fun _ => ?_)
    · intro y0 y1 y2 y3
      unfold sequiturlaw23_few.l0
      repeat' first
      | (with_reducible exact ih0 _ _ _ _)
      | (with_reducible exact ih1 _ _ _ _)
      | (with_reducible exact ih2 _ _ _)
      | (with_reducible exact LeO.refl _)
      | (with_reducible exact LeO.none _)
      | (with_reducible refine LeO.ite ?_ ?_)
      | (with_reducible refine LeO.bind ?_ (fun _ => ?_))
      | exact ih0 _ _ _ _
      | exact ih1 _ _ _ _
      | exact ih2 _ _ _
      | exact LeO.none _
      | refine LeO.ite ?_ ?_
      | refine LeO.bind ?_ (fun _ => ?_)
    · intro y0 y1 y2
      unfold sequiturlaw23_few.l1
      repeat' first
      | (with_reducible exact ih0 _ _ _ _)
      | (with_reducible exact ih1 _ _ _ _)
      | (with_reducible exact ih2 _ _ _)
      | (with_reducible exact LeO.refl _)
      | (with_reducible exact LeO.none _)
      | (with_reducible refine LeO.ite ?_ ?_)
      | (with_reducible refine LeO.bind ?_ (fun _ => ?_))
      | exact ih0 _ _ _ _
      | exact ih1 _ _ _ _
      | exact ih2 _ _ _
      | exact LeO.none _
      | refine LeO.ite ?_ ?_
      | refine LeO.bind ?_ (fun _ => ?_)
theorem sequiturlaw23_few.mono : ∀ a0 a1 a2 k, LeO (sequiturlaw23_few.f k a0 a1 a2) (sequiturlaw23_few.f (k + 1) a0 a1 a2) := by
  intro a0 a1 a2 k
  obtain ⟨ih0, ih1, ih2⟩ := sequiturlaw23_few.mono_l k
  unfold sequiturlaw23_few.f
  repeat' first
      | (with_reducible exact ih0 _ _ _ _)
      | (with_reducible exact ih1 _ _ _ _)
      | (with_reducible exact ih2 _ _ _)
      | (with_reducible exact LeO.refl _)
      | (with_reducible exact LeO.none _)
      | (with_reducible refine LeO.ite ?_ ?_)
      | (with_reducible refine LeO.bind ?_ (fun _ => ?_))
      | exact ih0 _ _ _ _
      | exact ih1 _ _ _ _
      | exact ih2 _ _ _
      | exact LeO.none _
      | refine LeO.ite ?_ ?_
      | refine LeO.bind ?_ (fun _ => ?_)
set_option maxHeartbeats 8000000 in
set_option maxRecDepth 100000 in
theorem sequiturlaw23_few.calls (k : Nat) (a0_0 : Int) (A0_1 : Option Addr) (c0_1 : Nat) (l0_1 : List (List Int)) (A1 : Option Addr) (c1 : Nat) (l1 : List (S64)) (r : Bool) (w : World) (hr0_1 : Kd.C (Kd.slice 3 (Kd.int .i64)) w A0_1 l0_1.length l0_1) (hc0_1 : l0_1.length ≤ c0_1) (hr1 : Kd.C k64 w A1 l1.length l1) (hc1 : l1.length ≤ c1) (h : sequiturlaw23_few.f k a0_0 l0_1 l1 = some r) :
    Calls Try.prog 37 #[.agg #[.int .i64 a0_0, .slice A0_1 l0_1.length c0_1], .slice A1 l1.length c1] w fun e w' => e = .returned (.bool r) ∧ Below w.heap.size w w' := by
  have hu29 := Try.underlying29
  have hu64 := Try.underlying64
  have HR0_1 := Aside0.mk hr0_1
  have HC0_1 := Aside0.mk hc0_1
  clear hr0_1 hc0_1
  have HR1 := Aside0.mk hr1
  have HC1 := Aside0.mk hc1
  clear hr1 hc1
  have HB := Aside0.mk (Below.refl w.heap.size w)
  have H : (if a0_0 > 40 then (sequiturlaw23_few.j0 k l1 true a0_0 l0_1) else (if (l0_1.length : Int) > 60 then (sequiturlaw23_few.j0 k l1 true a0_0 l0_1) else (sequiturlaw23_few.j0 k l1 (decide ((l1.length : Int) > 30)) a0_0 l0_1))) = some r := h
  clear h
  have HC3 := Aside0.mk H
  clear H
  go_enter Try.func37, Try.ntmps37
  go_upto_region 1 with (first | ((with_reducible refine gate_dst (N := 2) rfl ?_); (try (refine gate_guard (by rfl) ?_; dsimp only)); refine box_event ?hg (N := 2) ?hd (cs := #[.int .i64 a0_0, .slice A0_1 l0_1.length c0_1]) (t := 29) ?hr ?_; (case hd => rfl); (case hg => rfl); (case hr => first | (go_simp; done) | (go_simp; rfl)); intro gb361 hg w4 hbox hb; have n0_ := Aside0.mk (below_step (by repeat (first | (with_reducible first | exact HB.out | apply below_alloc | apply pw_below_drewN | apply below_drew1) | exact HB.out)) hb); have n1_ := Aside0.mk (hbox); have n2_ := Aside0.mk ((by rw [hg]; exact (below_size (by repeat (first | (with_reducible first | exact HB.out | apply below_alloc | apply pw_below_drewN | apply below_drew1) | exact HB.out))) : w.heap.size ≤ gb361)); have n3_ := Aside0.mk ((by rw [hg]; exact (below_size (by repeat (first | (with_reducible first | exact HB.out | apply below_alloc | apply pw_below_drewN | apply below_drew1) | exact HB.out))) : w.heap.size ≤ gb361)); clear HB; have HB := n0_; have BK361 := n1_; have GW361 := n2_; have GE361 := n3_; clear n0_ n1_ n2_ n3_; clear hb hbox hg))
  (try simp only [Act.put, List.setIfInBounds_toArray, List.set_cons_zero, List.set_cons_succ])
  go_cut [22] (fun v22 wc => ∃ (kq : Nat) (x22_2 : Bool), v22 = .bool x22_2 ∧ Aside0 (sequiturlaw23_few.j0 kq l1 x22_2 a0_0 l0_1 = some r) ∧ Aside0 (kq ≤ k) ∧ Aside0 (wc.heap[gb361]? = some (.cells #[.int .i64 a0_0, (.slice A0_1 l0_1.length c0_1)] 29 (0, 0))) ∧ Aside0 (Below w.heap.size w wc))
  case first =>
    have H := HC3.out
    clear HC3
    by_cases c5 : a0_0 > 40
    · rw [if_pos c5] at H
      have c5b0 : decide (40 < a0_0) = true := decide_eq_true c5
      clear c5
      (first | rw [c5b0] | (simp only [i64_w, i32_w]; rw [c5b0]) | skip)
      as_aux_lemma =>
        have H' := Aside0.mk H
        clear H
        have hcz6_0 : w4.cell? ⟨gb361, 0, none⟩ = some (.int .i64 a0_0) := (blk_cell BK361.out 0).trans rfl
        have hcz6_1 : w4.cell? ⟨gb361, 1, none⟩ = some (.slice A0_1 l0_1.length c0_1) := (blk_cell BK361.out 1).trans rfl
        have hfz6_0 := blk_frozen BK361.out 0
        have hfz6_1 := blk_frozen BK361.out 1
        go_wp2
        go_meet
        case rel => exact ⟨_, (true), (by first | rfl | (simp; done) | (simp [*]; done)), H', ⟨by first | omega | exact Nat.le_refl _⟩, ⟨by (with_reducible repeat (first | refine blk_drewN ?_ _ | refine blk_drew ?_ | refine blk_alloc ?_ _)); exact BK361.out⟩, ⟨by repeat (first | (with_reducible first | exact HB.out | apply below_alloc | apply pw_below_drewN | apply below_drew1 | refine below_set ?_ GE361.out) | exact HB.out)⟩⟩
    · rw [if_neg c5] at H
      have c5b0 : decide (40 < a0_0) = false := decide_eq_false c5
      clear c5
      (first | rw [c5b0] | (simp only [i64_w, i32_w]; rw [c5b0]) | skip)
      by_cases c7 : (l0_1.length : Int) > 60
      · rw [if_pos c7] at H
        have c7b0 : decide (60 < (l0_1.length : Int)) = true := decide_eq_true c7
        have c7b1 : decide (60 < l0_1.length) = true := decide_eq_true (by omega)
        clear c7
        as_aux_lemma =>
          have H' := Aside0.mk H
          clear H
          have hcz8_0 : w4.cell? ⟨gb361, 0, none⟩ = some (.int .i64 a0_0) := (blk_cell BK361.out 0).trans rfl
          have hcz8_1 : w4.cell? ⟨gb361, 1, none⟩ = some (.slice A0_1 l0_1.length c0_1) := (blk_cell BK361.out 1).trans rfl
          have hfz8_0 := blk_frozen BK361.out 0
          have hfz8_1 := blk_frozen BK361.out 1
          go_wp2
          go_meet
          case rel => exact ⟨_, (true), (by first | rfl | (simp; done) | (simp [*]; done)), H', ⟨by first | omega | exact Nat.le_refl _⟩, ⟨by (with_reducible repeat (first | refine blk_drewN ?_ _ | refine blk_drew ?_ | refine blk_alloc ?_ _)); exact BK361.out⟩, ⟨by repeat (first | (with_reducible first | exact HB.out | apply below_alloc | apply pw_below_drewN | apply below_drew1 | refine below_set ?_ GE361.out) | exact HB.out)⟩⟩
      · rw [if_neg c7] at H
        have c7b0 : decide (60 < (l0_1.length : Int)) = false := decide_eq_false c7
        have c7b1 : decide (60 < l0_1.length) = false := decide_eq_false (by omega)
        clear c7
        as_aux_lemma =>
          have H' := Aside0.mk H
          clear H
          have hcz9_0 : w4.cell? ⟨gb361, 0, none⟩ = some (.int .i64 a0_0) := (blk_cell BK361.out 0).trans rfl
          have hcz9_1 : w4.cell? ⟨gb361, 1, none⟩ = some (.slice A0_1 l0_1.length c0_1) := (blk_cell BK361.out 1).trans rfl
          have hfz9_0 := blk_frozen BK361.out 0
          have hfz9_1 := blk_frozen BK361.out 1
          go_wp2
          go_meet
          case rel => exact ⟨_, (decide ((l1.length : Int) > 30)), (by first | rfl | (simp; done) | (simp [*]; done)), H', ⟨by first | omega | exact Nat.le_refl _⟩, ⟨by (with_reducible repeat (first | refine blk_drewN ?_ _ | refine blk_drew ?_ | refine blk_alloc ?_ _)); exact BK361.out⟩, ⟨by repeat (first | (with_reducible first | exact HB.out | apply below_alloc | apply pw_below_drewN | apply below_drew1 | refine below_set ?_ GE361.out) | exact HB.out)⟩⟩
  case rest =>
    clear HC3
    try clear c1
    try clear p2
    try clear c3
    try clear c5
    try clear c5b0
    try clear c7
    try clear c7b0
    try clear c7b1
    try clear hcz6_0
    try clear hcz6_1
    try clear hcz8_0
    try clear hcz8_1
    try clear hcz9_0
    try clear hcz9_1
    try clear hfz6_0
    try clear hfz6_1
    try clear hfz8_0
    try clear hfz8_1
    try clear hfz9_0
    try clear hfz9_1
    obtain ⟨kq, x22_2, rfl, HA, HJ2, BK361, HB⟩ := hcut
    cases kq with
    | zero => exact absurd HA.out (by simp [sequiturlaw23_few.j0])
    | succ kj2 =>
      have H := HA.out
      clear HA
      simp only [sequiturlaw23_few.j0] at H
      by_cases c10 : x22_2 = true
      · subst c10
        have H1 : (some false) = some r := by rw [if_pos rfl] at H; exact H
        clear H
        have H := H1
        clear H1
        as_aux_lemma =>
          obtain rfl := Option.some.inj H
          go_wp2
          go_ret
          exact ⟨by first | rfl | (simp [errW_none, errW_some] <;> rfl) | (simp [*, errW_none, errW_some] <;> rfl), by repeat (first | (with_reducible first | exact HB.out | apply below_alloc | apply pw_below_drewN | apply below_drew1 | refine below_set ?_ GE361.out) | exact HB.out)⟩
      · replace c10 := Bool.eq_false_iff.mpr c10
        subst c10
        have H1 : (sequiturlaw23_few.l0 kj2 l1 l0_1 (l0_1.length : Int) 0) = some r := by rw [if_neg (show ¬ (false = true) by decide)] at H; exact H
        clear H
        have H := H1
        clear H1
        have H' := Aside0.mk H
        clear H
        have hcz11_0 : wc.cell? ⟨gb361, 0, none⟩ = some (.int .i64 a0_0) := (blk_cell BK361.out 0).trans rfl
        have hcz11_1 : wc.cell? ⟨gb361, 1, none⟩ = some (.slice A0_1 l0_1.length c0_1) := (blk_cell BK361.out 1).trans rfl
        have hfz11_0 := blk_frozen BK361.out 0
        have hfz11_1 := blk_frozen BK361.out 1
        go_wp2
        go_loopg [26] kj2 (fun kq v26 w' => ∃ (x26_2 : Int), v26 = .int .i64 x26_2 ∧ Aside0 (sequiturlaw23_few.l0 kq l1 l0_1 (l0_1.length : Int) x26_2 = some r) ∧ Aside0 (kq ≤ kj2) ∧ Aside0 (w'.heap[gb361]? = some (.cells #[.int .i64 a0_0, (.slice A0_1 l0_1.length c0_1)] 29 (0, 0))) ∧ Aside0 (Below w.heap.size w w'))
        case atStart => exact ⟨(0), (by first | rfl | (simp; done) | (simp [*]; done)), H', ⟨Nat.le_refl _⟩, ⟨by (with_reducible repeat (first | refine blk_drewN ?_ _ | refine blk_drew ?_ | refine blk_alloc ?_ _)); exact BK361.out⟩, ⟨by repeat (first | (with_reducible first | exact HB.out | apply below_alloc | apply pw_below_drewN | apply below_drew1 | refine below_set ?_ GE361.out) | exact HB.out)⟩⟩
        case round =>
          clear H'
          try clear c1
          try clear p2
          try clear c3
          try clear c5
          try clear c5b0
          try clear c7
          try clear c7b0
          try clear c7b1
          try clear c10
          try clear hcz11_0
          try clear hcz11_1
          try clear hcz6_0
          try clear hcz6_1
          try clear hcz8_0
          try clear hcz8_1
          try clear hcz9_0
          try clear hcz9_1
          try clear hfz11_0
          try clear hfz11_1
          try clear hfz6_0
          try clear hfz6_1
          try clear hfz8_0
          try clear hfz8_1
          try clear hfz9_0
          try clear hfz9_1
          try clear p2
          obtain ⟨x26_2, rfl, HA, HK2, BK361, HB⟩ := hrel
          cases gk with
          | zero => exact absurd HA.out (by simp [sequiturlaw23_few.l0])
          | succ k2 =>
            have H := HA.out
            clear HA
            simp only [sequiturlaw23_few.l0] at H
            by_cases c12 : x26_2 < (l0_1.length : Int)
            · rw [if_pos c12] at H
              have c12b0 : decide (x26_2 < (l0_1.length : Int)) = true := decide_eq_true c12
              clear c12
              by_cases c13 : 0 ≤ x26_2
              · rw [if_pos c13] at H
                have c13b0 : decide (0 ≤ x26_2) = true := decide_eq_true c13
                clear c13
                by_cases c14 : x26_2 < (l0_1.length : Int)
                · rw [if_pos c14] at H
                  have c14b0 : decide (x26_2 < (l0_1.length : Int)) = true := decide_eq_true c14
                  clear c14
                  by_cases c15 : ((rd_L3 l0_1 x26_2).length : Int) > 70
                  · rw [if_pos c15] at H
                    have c15b0 : decide (70 < ((rd_L3 l0_1 x26_2).length : Int)) = true := decide_eq_true c15
                    have c15b1 : decide (70 < (rd_L3 l0_1 x26_2).length) = true := decide_eq_true (by omega)
                    clear c15
                    as_aux_lemma =>
                      obtain rfl := Option.some.inj H
                      have p362 : 0 ≤ (x26_2 : Int) := of_decide_eq_true (by first | (with_reducible assumption) | assumption)
                      have q362 : x26_2 < (l0_1.length : Int) := of_decide_eq_true (by first | (with_reducible assumption) | assumption)
                      obtain ⟨ad362, A362_0, c362_0, e362, hx362_0, hl362_0, hi362_0⟩ := at_L3 HR0_1.out x26_2 p362 q362
                      cases e362
                      replace hx362_0 := (HB.out.cell (World.block_lt_of_cell? w _ hx362_0)).trans hx362_0
                      have HR362_0 := Aside0.mk hi362_0
                      have HC362_0 := Aside0.mk hl362_0
                      clear hi362_0 hl362_0
                      replace p362 := eq_true p362
                      replace q362 := eq_true q362
                      go_wp2
                      go_ret
                      exact ⟨by first | rfl | (simp [errW_none, errW_some] <;> rfl) | (simp [*, errW_none, errW_some] <;> rfl), by repeat (first | (with_reducible first | exact HB.out | apply below_alloc | apply pw_below_drewN | apply below_drew1 | refine below_set ?_ GE361.out) | exact HB.out)⟩
                  · rw [if_neg c15] at H
                    have c15b0 : decide (70 < ((rd_L3 l0_1 x26_2).length : Int)) = false := decide_eq_false c15
                    have c15b1 : decide (70 < (rd_L3 l0_1 x26_2).length) = false := decide_eq_false (by omega)
                    clear c15
                    as_aux_lemma =>
                      have H' := Aside0.mk H
                      clear H
                      have p362 : 0 ≤ (x26_2 : Int) := of_decide_eq_true (by first | (with_reducible assumption) | assumption)
                      have q362 : x26_2 < (l0_1.length : Int) := of_decide_eq_true (by first | (with_reducible assumption) | assumption)
                      obtain ⟨ad362, A362_0, c362_0, e362, hx362_0, hl362_0, hi362_0⟩ := at_L3 HR0_1.out x26_2 p362 q362
                      cases e362
                      replace hx362_0 := (HB.out.cell (World.block_lt_of_cell? w _ hx362_0)).trans hx362_0
                      have HR362_0 := Aside0.mk hi362_0
                      have HC362_0 := Aside0.mk hl362_0
                      clear hi362_0 hl362_0
                      replace p362 := eq_true p362
                      replace q362 := eq_true q362
                      go_wp2
                      go_roundg k2
                      case measure => have := HJ2.out; have := HK2.out; omega
                      case rel => exact ⟨(wrap64 (x26_2 + 1)), (by first | rfl | (simp; done) | (simp [*]; done)), H', ⟨by have := HJ2.out; have := HK2.out; omega⟩, ⟨by (with_reducible repeat (first | refine blk_drewN ?_ _ | refine blk_drew ?_ | refine blk_alloc ?_ _)); exact BK361.out⟩, ⟨by repeat (first | (with_reducible first | exact HB.out | apply below_alloc | apply pw_below_drewN | apply below_drew1 | refine below_set ?_ GE361.out) | exact HB.out)⟩⟩
                · rw [if_neg c14] at H
                  exact absurd H (by simp)
              · rw [if_neg c13] at H
                exact absurd H (by simp)
            · rw [if_neg c12] at H
              have c12b0 : decide (x26_2 < (l0_1.length : Int)) = false := decide_eq_false c12
              clear c12
              have H' := Aside0.mk H
              clear H
              go_wp2
              go_loopg [36] k2 (fun kq v36 w' => ∃ (x36_3 : Int), v36 = .int .i64 x36_3 ∧ Aside0 (sequiturlaw23_few.l1 kq l1 (l1.length : Int) x36_3 = some r) ∧ Aside0 (kq ≤ k2) ∧ Aside0 (w'.heap[gb361]? = some (.cells #[.int .i64 a0_0, (.slice A0_1 l0_1.length c0_1)] 29 (0, 0))) ∧ Aside0 (Below w.heap.size w w'))
              case atStart => exact ⟨(0), (by first | rfl | (simp; done) | (simp [*]; done)), H', ⟨Nat.le_refl _⟩, ⟨by (with_reducible repeat (first | refine blk_drewN ?_ _ | refine blk_drew ?_ | refine blk_alloc ?_ _)); exact BK361.out⟩, ⟨by repeat (first | (with_reducible first | exact HB.out | apply below_alloc | apply pw_below_drewN | apply below_drew1 | refine below_set ?_ GE361.out) | exact HB.out)⟩⟩
              case round =>
                clear H'
                try clear c1
                try clear p2
                try clear c3
                try clear p3
                try clear q3
                try clear hx3
                try clear c5
                try clear c5b0
                try clear p6
                try clear c7
                try clear c7b0
                try clear c7b1
                try clear c10
                try clear c12
                try clear c12b0
                try clear c13
                try clear c13b0
                try clear c14
                try clear c14b0
                try clear c15
                try clear c15b0
                try clear c15b1
                try clear hcz11_0
                try clear hcz11_1
                try clear hcz6_0
                try clear hcz6_1
                try clear hcz8_0
                try clear hcz8_1
                try clear hcz9_0
                try clear hcz9_1
                try clear hfz11_0
                try clear hfz11_1
                try clear hfz6_0
                try clear hfz6_1
                try clear hfz8_0
                try clear hfz8_1
                try clear hfz9_0
                try clear hfz9_1
                try clear hx362_0
                try clear p2
                try clear p362
                try clear q362
                obtain ⟨x36_3, rfl, HA, HK3, BK361, HB⟩ := hrel
                cases gk with
                | zero => exact absurd HA.out (by simp [sequiturlaw23_few.l1])
                | succ k3 =>
                  have H := HA.out
                  clear HA
                  simp only [sequiturlaw23_few.l1] at H
                  by_cases c16 : x36_3 < (l1.length : Int)
                  · rw [if_pos c16] at H
                    have c16b0 : decide (x36_3 < (l1.length : Int)) = true := decide_eq_true c16
                    clear c16
                    by_cases c17 : 0 ≤ x36_3
                    · rw [if_pos c17] at H
                      have c17b0 : decide (0 ≤ x36_3) = true := decide_eq_true c17
                      clear c17
                      by_cases c18 : x36_3 < (l1.length : Int)
                      · rw [if_pos c18] at H
                        have c18b0 : decide (x36_3 < (l1.length : Int)) = true := decide_eq_true c18
                        clear c18
                        by_cases c19 : (((rd_T64 l1 x36_3).f1).length : Int) > 70
                        · rw [if_pos c19] at H
                          have c19b0 : decide (70 < (((rd_T64 l1 x36_3).f1).length : Int)) = true := decide_eq_true c19
                          have c19b1 : decide (70 < ((rd_T64 l1 x36_3).f1).length) = true := decide_eq_true (by omega)
                          clear c19
                          as_aux_lemma =>
                            obtain rfl := Option.some.inj H
                            have p363 : 0 ≤ (x36_3 : Int) := of_decide_eq_true (by first | (with_reducible assumption) | assumption)
                            have q363 : x36_3 < (l1.length : Int) := of_decide_eq_true (by first | (with_reducible assumption) | assumption)
                            obtain ⟨ad363, A363_1, c363_1, e363, hx363_0, hx363_1, hl363_1, hi363_1⟩ := at_T64 HR1.out x36_3 p363 q363
                            cases e363
                            replace hx363_0 := (HB.out.cell (World.block_lt_of_cell? w _ hx363_0)).trans hx363_0
                            replace hx363_1 := (HB.out.cell (World.block_lt_of_cell? w _ hx363_1)).trans hx363_1
                            have HR363_1 := Aside0.mk hi363_1
                            have HC363_1 := Aside0.mk hl363_1
                            clear hi363_1 hl363_1
                            replace p363 := eq_true p363
                            replace q363 := eq_true q363
                            go_wp2_with (first | ((with_reducible refine gate_dst (N := 8) rfl ?_); (try (refine gate_guard (by rfl) ?_; dsimp only)); refine box_event ?hg (N := 8) ?hd (cs := #[.bool false, .slice none 0 0]) (t := 64) ?hr ?_; (case hd => rfl); (case hg => rfl); (case hr => first | (go_simp; done) | (go_simp; rfl)); intro gb364 hg w20 hbox hb; have n0_ := Aside0.mk (blk_below (g := gb361) (o := .cells #[.int .i64 a0_0, .slice A0_1 l0_1.length c0_1] 29 (0, 0)) (by (with_reducible repeat (first | refine blk_drewN ?_ _ | refine blk_drew ?_ | refine blk_alloc ?_ _)); exact BK361.out) hb); have n1_ := Aside0.mk (below_step (by repeat (first | (with_reducible first | exact HB.out | apply below_alloc | apply pw_below_drewN | apply below_drew1 | refine below_set ?_ GE361.out) | exact HB.out)) hb); have n2_ := Aside0.mk (hbox); have n3_ := Aside0.mk ((by rw [hg]; exact (below_size (by repeat (first | (with_reducible first | exact HB.out | apply below_alloc | apply pw_below_drewN | apply below_drew1 | refine below_set ?_ GE361.out) | exact HB.out))) : w.heap.size ≤ gb364)); have n4_ := Aside0.mk ((by rw [hg]; exact (below_size (by repeat (first | (with_reducible first | exact HB.out | apply below_alloc | apply pw_below_drewN | apply below_drew1 | refine below_set ?_ GE361.out) | exact HB.out))) : w.heap.size ≤ gb364)); have n5_ := Aside0.mk ((by rw [hg]; exact Nat.ne_of_lt (blk_lt (g := gb361) (o := .cells #[.int .i64 a0_0, .slice A0_1 l0_1.length c0_1] 29 (0, 0)) (by (with_reducible repeat (first | refine blk_drewN ?_ _ | refine blk_drew ?_ | refine blk_alloc ?_ _)); exact BK361.out)) : gb361 ≠ gb364)); have n6_ := Aside0.mk ((by rw [hg]; exact Nat.ne_of_gt (blk_lt (g := gb361) (o := .cells #[.int .i64 a0_0, .slice A0_1 l0_1.length c0_1] 29 (0, 0)) (by (with_reducible repeat (first | refine blk_drewN ?_ _ | refine blk_drew ?_ | refine blk_alloc ?_ _)); exact BK361.out)) : gb364 ≠ gb361)); clear BK361; clear HB; have BK361 := n0_; have HB := n1_; have BK364 := n2_; have GW364 := n3_; have GE364 := n4_; have NB361_364 := n5_; have NB364_361 := n6_; clear n0_ n1_ n2_ n3_ n4_ n5_ n6_; clear hb hbox hg; have hnb21 := NB364_361.out; have hnc21 := NB361_364.out; have hcz22_0 : w20.cell? ⟨gb364, 0, none⟩ = some (.bool false) := (blk_cell BK364.out 0).trans rfl; have hcz22_1 : w20.cell? ⟨gb364, 1, none⟩ = some (.slice none 0 0) := (blk_cell BK364.out 1).trans rfl; have hfz22_0 := blk_frozen BK364.out 0; have hfz22_1 := blk_frozen BK364.out 1))
                            go_ret
                            exact ⟨by first | rfl | (simp [errW_none, errW_some] <;> rfl) | (simp [*, errW_none, errW_some] <;> rfl), by repeat (first | (with_reducible first | exact HB.out | apply below_alloc | apply pw_below_drewN | apply below_drew1 | refine below_set ?_ GE361.out | refine below_set ?_ GE364.out) | exact HB.out)⟩
                        · rw [if_neg c19] at H
                          have c19b0 : decide (70 < (((rd_T64 l1 x36_3).f1).length : Int)) = false := decide_eq_false c19
                          have c19b1 : decide (70 < ((rd_T64 l1 x36_3).f1).length) = false := decide_eq_false (by omega)
                          clear c19
                          as_aux_lemma =>
                            have H' := Aside0.mk H
                            clear H
                            have p363 : 0 ≤ (x36_3 : Int) := of_decide_eq_true (by first | (with_reducible assumption) | assumption)
                            have q363 : x36_3 < (l1.length : Int) := of_decide_eq_true (by first | (with_reducible assumption) | assumption)
                            obtain ⟨ad363, A363_1, c363_1, e363, hx363_0, hx363_1, hl363_1, hi363_1⟩ := at_T64 HR1.out x36_3 p363 q363
                            cases e363
                            replace hx363_0 := (HB.out.cell (World.block_lt_of_cell? w _ hx363_0)).trans hx363_0
                            replace hx363_1 := (HB.out.cell (World.block_lt_of_cell? w _ hx363_1)).trans hx363_1
                            have HR363_1 := Aside0.mk hi363_1
                            have HC363_1 := Aside0.mk hl363_1
                            clear hi363_1 hl363_1
                            replace p363 := eq_true p363
                            replace q363 := eq_true q363
                            go_wp2_with (first | ((with_reducible refine gate_dst (N := 8) rfl ?_); (try (refine gate_guard (by rfl) ?_; dsimp only)); refine box_event ?hg (N := 8) ?hd (cs := #[.bool false, .slice none 0 0]) (t := 64) ?hr ?_; (case hd => rfl); (case hg => rfl); (case hr => first | (go_simp; done) | (go_simp; rfl)); intro gb364 hg w23 hbox hb; have n0_ := Aside0.mk (blk_below (g := gb361) (o := .cells #[.int .i64 a0_0, .slice A0_1 l0_1.length c0_1] 29 (0, 0)) (by (with_reducible repeat (first | refine blk_drewN ?_ _ | refine blk_drew ?_ | refine blk_alloc ?_ _)); exact BK361.out) hb); have n1_ := Aside0.mk (below_step (by repeat (first | (with_reducible first | exact HB.out | apply below_alloc | apply pw_below_drewN | apply below_drew1 | refine below_set ?_ GE361.out) | exact HB.out)) hb); have n2_ := Aside0.mk (hbox); have n3_ := Aside0.mk ((by rw [hg]; exact (below_size (by repeat (first | (with_reducible first | exact HB.out | apply below_alloc | apply pw_below_drewN | apply below_drew1 | refine below_set ?_ GE361.out) | exact HB.out))) : w.heap.size ≤ gb364)); have n4_ := Aside0.mk ((by rw [hg]; exact (below_size (by repeat (first | (with_reducible first | exact HB.out | apply below_alloc | apply pw_below_drewN | apply below_drew1 | refine below_set ?_ GE361.out) | exact HB.out))) : w.heap.size ≤ gb364)); have n5_ := Aside0.mk ((by rw [hg]; exact Nat.ne_of_lt (blk_lt (g := gb361) (o := .cells #[.int .i64 a0_0, .slice A0_1 l0_1.length c0_1] 29 (0, 0)) (by (with_reducible repeat (first | refine blk_drewN ?_ _ | refine blk_drew ?_ | refine blk_alloc ?_ _)); exact BK361.out)) : gb361 ≠ gb364)); have n6_ := Aside0.mk ((by rw [hg]; exact Nat.ne_of_gt (blk_lt (g := gb361) (o := .cells #[.int .i64 a0_0, .slice A0_1 l0_1.length c0_1] 29 (0, 0)) (by (with_reducible repeat (first | refine blk_drewN ?_ _ | refine blk_drew ?_ | refine blk_alloc ?_ _)); exact BK361.out)) : gb364 ≠ gb361)); clear BK361; clear HB; have BK361 := n0_; have HB := n1_; have BK364 := n2_; have GW364 := n3_; have GE364 := n4_; have NB361_364 := n5_; have NB364_361 := n6_; clear n0_ n1_ n2_ n3_ n4_ n5_ n6_; clear hb hbox hg; have hnb24 := NB364_361.out; have hnc24 := NB361_364.out; have hcz25_0 : w23.cell? ⟨gb364, 0, none⟩ = some (.bool false) := (blk_cell BK364.out 0).trans rfl; have hcz25_1 : w23.cell? ⟨gb364, 1, none⟩ = some (.slice none 0 0) := (blk_cell BK364.out 1).trans rfl; have hfz25_0 := blk_frozen BK364.out 0; have hfz25_1 := blk_frozen BK364.out 1))
                            go_roundg k3
                            case measure => have := HJ2.out; have := HK2.out; have := HK3.out; omega
                            case rel => exact ⟨(wrap64 (x36_3 + 1)), (by first | rfl | (simp; done) | (simp [*]; done)), H', ⟨by have := HJ2.out; have := HK2.out; have := HK3.out; omega⟩, ⟨by (with_reducible repeat (first | refine blk_drewN ?_ _ | refine blk_drew ?_ | refine blk_alloc ?_ _)); refine blk_far ?_ NB361_364.out _; (with_reducible repeat (first | refine blk_drewN ?_ _ | refine blk_drew ?_ | refine blk_alloc ?_ _)); refine blk_far ?_ NB361_364.out _; (with_reducible repeat (first | refine blk_drewN ?_ _ | refine blk_drew ?_ | refine blk_alloc ?_ _)); exact BK361.out⟩, ⟨by repeat (first | (with_reducible first | exact HB.out | apply below_alloc | apply pw_below_drewN | apply below_drew1 | refine below_set ?_ GE361.out | refine below_set ?_ GE364.out) | exact HB.out)⟩⟩
                      · rw [if_neg c18] at H
                        exact absurd H (by simp)
                    · rw [if_neg c17] at H
                      exact absurd H (by simp)
                  · rw [if_neg c16] at H
                    have c16b0 : decide (x36_3 < (l1.length : Int)) = false := decide_eq_false c16
                    clear c16
                    as_aux_lemma =>
                      obtain rfl := Option.some.inj H
                      go_wp2
                      go_ret
                      exact ⟨by first | rfl | (simp [errW_none, errW_some] <;> rfl) | (simp [*, errW_none, errW_some] <;> rfl), by repeat (first | (with_reducible first | exact HB.out | apply below_alloc | apply pw_below_drewN | apply below_drew1 | refine below_set ?_ GE361.out) | exact HB.out)⟩

end Go.Proofs.Ytkfnaiobgddjpaa.P

-- Printed by wip/tools/pp.py of this claim's session (over the kit's print.py); Lean checks it.
namespace Go.Proofs.Ytkfnaiobgddjpaa.P
open Go.RowKit Go.Proofs.YtkfnaiobgddjpaaW.PrintWords Go.Proofs.YtkfnaiobgddjpaaW.PrintLast Go.Proofs.YtkfnaiobgddjpaaW.PrintMore
attribute [local go_sem] max2_int min2_int max_two min_two max_three min_three max_four min_four   -- for this text's walks alone
set_option linter.unusedVariables false
set_option linter.unusedSimpArgs false

/-! ### lit_is: function 73 -/
def lit_is.f (a0 : Int) : Option (Bool) := if a0 = 0 then (some false) else (some (a0 != (-9223372036854775808)))
set_option maxHeartbeats 8000000 in
set_option maxRecDepth 100000 in
theorem lit_is.calls (a0 : Int) (r : Bool) (w : World) (h : lit_is.f a0 = some r) :
    Calls Try.prog 73 #[.int .i64 a0] w fun e w' => e = .returned (.bool r) ∧ Drawn0 w w' := by
  have H : (if a0 = 0 then (some false) else (some (a0 != (-9223372036854775808)))) = some r := h
  clear h
  by_cases c2 : a0 = 0
  · rw [if_pos c2] at H
    have c2b0 : (a0 == 0) = true := beq_iff_eq.mpr c2
    have c2b1 : (a0 != 0) = false := bne_eq_false_iff_eq.mpr c2
    clear c2
    as_aux_lemma =>
      obtain rfl := Option.some.inj H
      go_enter Try.func73, Try.ntmps73
      go_wp2
      go_ret
      exact ⟨by first | rfl | (simp; done) | (simp [*]; done), by repeat (first | exact Drawn0.refl _ | apply Drawn0.step)⟩
  · rw [if_neg c2] at H
    have c2b0 : (a0 == 0) = false := beq_eq_false_iff_ne.mpr c2
    have c2b1 : (a0 != 0) = true := bne_iff_ne.mpr c2
    as_aux_lemma =>
      obtain rfl := Option.some.inj H
      go_enter Try.func73, Try.ntmps73
      go_wp2
      go_ret
      exact ⟨by first | rfl | (simp; done) | (simp [*]; done), by repeat (first | exact Drawn0.refl _ | apply Drawn0.step)⟩

end Go.Proofs.Ytkfnaiobgddjpaa.P

-- Printed by wip/tools/pp.py of this claim's session (over the kit's print.py); Lean checks it.
namespace Go.Proofs.Ytkfnaiobgddjpaa.P
open Go.RowKit Go.Proofs.YtkfnaiobgddjpaaW.PrintWords Go.Proofs.YtkfnaiobgddjpaaW.PrintLast Go.Proofs.YtkfnaiobgddjpaaW.PrintMore
attribute [local go_sem] max2_int min2_int max_two min_two max_three min_three max_four min_four   -- for this text's walks alone
set_option linter.unusedVariables false
set_option linter.unusedSimpArgs false

-- SOLO
-- IMPORTS 
/-! ### lit_variable: function 74 -/
def lit_variable.f (a0 : Int) : Option (Int) := some (mx a0 (wrap64 (-a0)))
set_option maxHeartbeats 8000000 in
set_option maxRecDepth 100000 in
theorem lit_variable.calls (a0 : Int) (r : Int) (w : World) (h : lit_variable.f a0 = some r) :
    Calls Try.prog 74 #[.int .i64 a0] w fun e w' => e = .returned (.int .i64 r) ∧ Drawn0 w w' := by
  obtain rfl := Option.some.inj h
  clear h
  go_enter Try.func74, Try.ntmps74
  go_wp2
  · have h : a0 < wrap64 (-a0) := by assumption
    rw [show mx a0 (wrap64 (-a0)) = wrap64 (-a0) from if_pos h]
    go_ret
    exact ⟨rfl, Drawn0.refl _⟩
  · have h : wrap64 (-a0) ≤ a0 := by assumption
    rw [show mx a0 (wrap64 (-a0)) = a0 from if_neg (by omega)]
    go_ret
    exact ⟨rfl, Drawn0.refl _⟩


end Go.Proofs.Ytkfnaiobgddjpaa.P

-- Printed by wip/tools/pp.py of this claim's session (over the kit's print.py); Lean checks it.
namespace Go.Proofs.Ytkfnaiobgddjpaa.P
open Go.RowKit Go.Proofs.YtkfnaiobgddjpaaW.PrintWords Go.Proofs.YtkfnaiobgddjpaaW.PrintLast Go.Proofs.YtkfnaiobgddjpaaW.PrintMore
attribute [local go_sem] max2_int min2_int max_two min_two max_three min_three max_four min_four   -- for this text's walks alone
set_option linter.unusedVariables false
set_option linter.unusedSimpArgs false

/-! ### lit_Right: function 52 -/
def lit_Right.l0 : Nat → Int → List Int → Int → Int → Option (Int)
  | 0, _, _, _, _ => none
  | k + 1, x1, x10, x11, x12 => if x12 < x11 then (if 0 ≤ x12 then (if x12 < (x10.length : Int) then ((lit_is.f (rd x10 x12)).bind fun t111 => (if t111 = true then ((lit_variable.f (rd x10 x12)).bind fun t112 => (if t112 > x1 then (some 1) else (lit_Right.l0 k x1 x10 x11 (wrap64 (x12 + 1))))) else (some 1))) else (none)) else (none)) else (some 0)
def lit_Right.f (k : Nat) (l0 : List Int) (a1 : Int) : Option (Int) := if (l0.length : Int) > 64 then (some 2) else (lit_Right.l0 k a1 l0 (l0.length : Int) 0)
theorem lit_Right.mono_l : ∀ k, (∀ y0 y1 y2 y3, LeO (lit_Right.l0 k y0 y1 y2 y3) (lit_Right.l0 (k + 1) y0 y1 y2 y3))
  | 0 => fun _ _ _ _ r h => by simp [lit_Right.l0] at h
  | k + 1 => by
    have ih0 := lit_Right.mono_l k
    · intro y0 y1 y2 y3
      unfold lit_Right.l0
      repeat' first
      | (with_reducible exact ih0 _ _ _ _)
      | (with_reducible exact LeO.refl _)
      | (with_reducible exact LeO.none _)
      | (with_reducible refine LeO.ite ?_ ?_)
      | (with_reducible refine LeO.bind ?_ (fun _ => ?_))
      | exact ih0 _ _ _ _
      | exact LeO.none _
      | refine LeO.ite ?_ ?_
      | refine LeO.bind ?_ (fun _ => ?_)
theorem lit_Right.mono : ∀ a0 a1 k, LeO (lit_Right.f k a0 a1) (lit_Right.f (k + 1) a0 a1) := by
  intro a0 a1 k
  have ih0 := lit_Right.mono_l k
  unfold lit_Right.f
  repeat' first
      | (with_reducible exact ih0 _ _ _ _)
      | (with_reducible exact LeO.refl _)
      | (with_reducible exact LeO.none _)
      | (with_reducible refine LeO.ite ?_ ?_)
      | (with_reducible refine LeO.bind ?_ (fun _ => ?_))
      | exact ih0 _ _ _ _
      | exact LeO.none _
      | refine LeO.ite ?_ ?_
      | refine LeO.bind ?_ (fun _ => ?_)
set_option maxHeartbeats 8000000 in
set_option maxRecDepth 100000 in
theorem lit_Right.calls (k : Nat) (A0 : Option Addr) (c0 : Nat) (l0 : List Int) (a1 : Int) (r : Int) (w : World) (hr0 : Kd.C (Kd.int .i64) w A0 l0.length l0) (hc0 : l0.length ≤ c0) (h : lit_Right.f k l0 a1 = some r) :
    Calls Try.prog 52 #[.slice A0 l0.length c0, .int .i64 a1] w fun e w' => e = .returned (.int .i64 r) ∧ Drawn0 w w' := by
  have HR0 := Aside0.mk hr0
  have HC0 := Aside0.mk hc0
  clear hr0 hc0
  have H : (if (l0.length : Int) > 64 then (some 2) else (lit_Right.l0 k a1 l0 (l0.length : Int) 0)) = some r := h
  clear h
  by_cases c3 : (l0.length : Int) > 64
  · rw [if_pos c3] at H
    have c3b0 : decide (64 < (l0.length : Int)) = true := decide_eq_true c3
    have c3b1 : decide (64 < l0.length) = true := decide_eq_true (by omega)
    clear c3
    as_aux_lemma =>
      obtain rfl := Option.some.inj H
      go_enter Try.func52, Try.ntmps52
      go_wp2
      go_ret
      exact ⟨by first | rfl | (simp; done) | (simp [*]; done), by repeat (first | exact Drawn0.refl _ | apply Drawn0.step)⟩
  · rw [if_neg c3] at H
    have c3b0 : decide (64 < (l0.length : Int)) = false := decide_eq_false c3
    have c3b1 : decide (64 < l0.length) = false := decide_eq_false (by omega)
    clear c3
    have H' := Aside0.mk H
    clear H
    go_enter Try.func52, Try.ntmps52
    go_wp2
    go_loopg [12] k (fun kq v12 w' => ∃ (x12_1 : Int), v12 = .int .i64 x12_1 ∧ Aside0 (lit_Right.l0 kq a1 l0 (l0.length : Int) x12_1 = some r) ∧ Aside0 (kq ≤ k) ∧ Drawn0 w w')
    case atStart => exact ⟨(0), (by first | rfl | (simp; done) | (simp [*]; done)), H', ⟨Nat.le_refl _⟩, by repeat (first | exact Drawn0.refl _ | apply Drawn0.step)⟩
    case round =>
      clear H'
      try clear p2
      try clear c3
      try clear c3b0
      try clear c3b1
      obtain ⟨x12_1, rfl, HA, HK1, ⟨m1, rfl⟩⟩ := hrel
      cases gk with
      | zero => exact absurd HA.out (by simp [lit_Right.l0])
      | succ k1 =>
        have H := HA.out
        clear HA
        simp only [lit_Right.l0] at H
        by_cases c4 : x12_1 < (l0.length : Int)
        · rw [if_pos c4] at H
          have c4b0 : decide (x12_1 < (l0.length : Int)) = true := decide_eq_true c4
          clear c4
          by_cases c5 : 0 ≤ x12_1
          · rw [if_pos c5] at H
            have c5b0 : decide (0 ≤ x12_1) = true := decide_eq_true c5
            clear c5
            by_cases c6 : x12_1 < (l0.length : Int)
            · rw [if_pos c6] at H
              have c6b0 : decide (x12_1 < (l0.length : Int)) = true := decide_eq_true c6
              clear c6
              replace H := Option.bind_eq_some_iff.mp H
              obtain ⟨t111, A70, H⟩ := H
              replace H : (if t111 = true then ((lit_variable.f (rd l0 x12_1)).bind fun t112 => (if t112 > a1 then (some 1) else (lit_Right.l0 k1 a1 l0 (l0.length : Int) (wrap64 (x12_1 + 1))))) else (some 1)) = some r := H
              have A7 := Aside0.mk A70
              clear A70
              by_cases c8 : t111 = true
              · subst c8
                have H1 : ((lit_variable.f (rd l0 x12_1)).bind fun t112 => (if t112 > a1 then (some 1) else (lit_Right.l0 k1 a1 l0 (l0.length : Int) (wrap64 (x12_1 + 1))))) = some r := by rw [if_pos rfl] at H; exact H
                clear H
                have H := H1
                clear H1
                replace H := Option.bind_eq_some_iff.mp H
                obtain ⟨t112, A90, H⟩ := H
                replace H : (if t112 > a1 then (some 1) else (lit_Right.l0 k1 a1 l0 (l0.length : Int) (wrap64 (x12_1 + 1)))) = some r := H
                have A9 := Aside0.mk A90
                clear A90
                by_cases c10 : t112 > a1
                · rw [if_pos c10] at H
                  have c10b0 : decide (a1 < t112) = true := decide_eq_true c10
                  clear c10
                  as_aux_lemma =>
                    obtain rfl := Option.some.inj H
                    have p110 : 0 ≤ (x12_1 : Int) := of_decide_eq_true (by first | (with_reducible assumption) | assumption)
                    have q110 : x12_1 < (l0.length : Int) := of_decide_eq_true (by first | (with_reducible assumption) | assumption)
                    obtain ⟨ad110, e110, hx110_0⟩ := Kd.at_int HR0.out x12_1 p110 q110
                    cases e110
                    replace p110 := eq_true p110
                    replace q110 := eq_true q110
                    go_wp2_with (first | ((with_reducible refine gate_callee (f := 73) rfl ?_); refine goesL_ (some 17) rfl rfl Try.func73 (by kernel_rfl) rfl #[.int .i64 (rd l0 x12_1)] rfl (by (try simp only [List.map_toArray, List.map_cons, List.map_nil]); first | done | rfl | (simp only [List.length_drop, List.length_take]; rfl)) ?_; (with_reducible refine (lit_is.calls (rd l0 x12_1) true _ A7.out).mono ?_); rintro e w' ⟨rfl, ⟨nd, rfl⟩⟩; refine ⟨_, rfl, ?_⟩) | (go_at_call 74; (with_reducible refine (lit_variable.calls (rd l0 x12_1) t112 _ A9.out).mono ?_); rintro e w' ⟨rfl, ⟨nd, rfl⟩⟩))
                    go_ret
                    exact ⟨by first | rfl | (simp; done) | (simp [*]; done), by repeat (first | exact Drawn0.refl _ | apply Drawn0.step)⟩
                · rw [if_neg c10] at H
                  have c10b0 : decide (a1 < t112) = false := decide_eq_false c10
                  clear c10
                  as_aux_lemma =>
                    have H' := Aside0.mk H
                    clear H
                    have p110 : 0 ≤ (x12_1 : Int) := of_decide_eq_true (by first | (with_reducible assumption) | assumption)
                    have q110 : x12_1 < (l0.length : Int) := of_decide_eq_true (by first | (with_reducible assumption) | assumption)
                    obtain ⟨ad110, e110, hx110_0⟩ := Kd.at_int HR0.out x12_1 p110 q110
                    cases e110
                    replace p110 := eq_true p110
                    replace q110 := eq_true q110
                    go_wp2_with (first | ((with_reducible refine gate_callee (f := 73) rfl ?_); refine goesL_ (some 17) rfl rfl Try.func73 (by kernel_rfl) rfl #[.int .i64 (rd l0 x12_1)] rfl (by (try simp only [List.map_toArray, List.map_cons, List.map_nil]); first | done | rfl | (simp only [List.length_drop, List.length_take]; rfl)) ?_; (with_reducible refine (lit_is.calls (rd l0 x12_1) true _ A7.out).mono ?_); rintro e w' ⟨rfl, ⟨nd, rfl⟩⟩; refine ⟨_, rfl, ?_⟩) | (go_at_call 74; (with_reducible refine (lit_variable.calls (rd l0 x12_1) t112 _ A9.out).mono ?_); rintro e w' ⟨rfl, ⟨nd, rfl⟩⟩))
                    go_roundg k1
                    case measure => have := HK1.out; omega
                    case rel => exact ⟨(wrap64 (x12_1 + 1)), (by first | rfl | (simp; done) | (simp [*]; done)), H', ⟨by have := HK1.out; omega⟩, by repeat (first | exact Drawn0.refl _ | apply Drawn0.step)⟩
              · replace c8 := Bool.eq_false_iff.mpr c8
                subst c8
                have H1 : (some 1) = some r := by rw [if_neg (show ¬ (false = true) by decide)] at H; exact H
                clear H
                have H := H1
                clear H1
                as_aux_lemma =>
                  obtain rfl := Option.some.inj H
                  have p110 : 0 ≤ (x12_1 : Int) := of_decide_eq_true (by first | (with_reducible assumption) | assumption)
                  have q110 : x12_1 < (l0.length : Int) := of_decide_eq_true (by first | (with_reducible assumption) | assumption)
                  obtain ⟨ad110, e110, hx110_0⟩ := Kd.at_int HR0.out x12_1 p110 q110
                  cases e110
                  replace p110 := eq_true p110
                  replace q110 := eq_true q110
                  go_wp2_with (first | ((with_reducible refine gate_callee (f := 73) rfl ?_); refine goesL_ (some 17) rfl rfl Try.func73 (by kernel_rfl) rfl #[.int .i64 (rd l0 x12_1)] rfl (by (try simp only [List.map_toArray, List.map_cons, List.map_nil]); first | done | rfl | (simp only [List.length_drop, List.length_take]; rfl)) ?_; (with_reducible refine (lit_is.calls (rd l0 x12_1) false _ A7.out).mono ?_); rintro e w' ⟨rfl, ⟨nd, rfl⟩⟩; refine ⟨_, rfl, ?_⟩))
                  go_ret
                  exact ⟨by first | rfl | (simp; done) | (simp [*]; done), by repeat (first | exact Drawn0.refl _ | apply Drawn0.step)⟩
            · rw [if_neg c6] at H
              exact absurd H (by simp)
          · rw [if_neg c5] at H
            exact absurd H (by simp)
        · rw [if_neg c4] at H
          have c4b0 : decide (x12_1 < (l0.length : Int)) = false := decide_eq_false c4
          clear c4
          as_aux_lemma =>
            obtain rfl := Option.some.inj H
            go_wp2
            go_ret
            exact ⟨by first | rfl | (simp; done) | (simp [*]; done), by repeat (first | exact Drawn0.refl _ | apply Drawn0.step)⟩

end Go.Proofs.Ytkfnaiobgddjpaa.P

-- Printed by wip/tools/pp.py of this claim's session (over the kit's print.py); Lean checks it.
namespace Go.Proofs.Ytkfnaiobgddjpaa.P
open Go.RowKit Go.Proofs.YtkfnaiobgddjpaaW.PrintWords Go.Proofs.YtkfnaiobgddjpaaW.PrintLast Go.Proofs.YtkfnaiobgddjpaaW.PrintMore
attribute [local go_sem] max2_int min2_int max_two min_two max_three min_three max_four min_four   -- for this text's walks alone
set_option linter.unusedVariables false
set_option linter.unusedSimpArgs false

/-! ### cnf_Right: function 51 -/
mutual
def cnf_Right.j0 : Nat → Bool → Int → List (List Int) → Option (Int × Int)
  | 0, _, _, _ => none
  | k + 1, x14, x114000, x114001 => if x14 = true then (some ((-1), 1)) else (if (x114001.length : Int) > 4096 then (some ((-1), 2)) else (cnf_Right.l0 k x114001 (x114001.length : Int) 0 x114000 x114001))
def cnf_Right.l0 : Nat → List (List Int) → Int → Int → Int → List (List Int) → Option (Int × Int)
  | 0, _, _, _, _, _ => none
  | k + 1, x20, x21, x22, x114000, x114001 => if x22 < x21 then (if 0 ≤ x22 then (if x22 < (x20.length : Int) then ((lit_Right.f k (rd_L3 x20 x22) x114000).bind fun t115 => (if t115 = 0 then (cnf_Right.l0 k x20 x21 (wrap64 (x22 + 1)) x114000 x114001) else (some (x22, t115)))) else (none)) else (none)) else (some (0, 0))
end
def cnf_Right.f (k : Nat) (a0_0 : Int) (l0_1 : List (List Int)) : Option (Int × Int) := if a0_0 < 0 then (cnf_Right.j0 k true a0_0 l0_1) else (cnf_Right.j0 k (decide (a0_0 > 1024)) a0_0 l0_1)
theorem cnf_Right.mono_l : ∀ k, (∀ y0 y1 y2, LeO (cnf_Right.j0 k y0 y1 y2) (cnf_Right.j0 (k + 1) y0 y1 y2)) ∧ (∀ y0 y1 y2 y3 y4, LeO (cnf_Right.l0 k y0 y1 y2 y3 y4) (cnf_Right.l0 (k + 1) y0 y1 y2 y3 y4))
  | 0 => ⟨fun _ _ _ r h => by simp [cnf_Right.j0] at h, fun _ _ _ _ _ r h => by simp [cnf_Right.l0] at h⟩
  | k + 1 => by
    obtain ⟨ih0, ih1⟩ := cnf_Right.mono_l k
    refine ⟨?_, ?_⟩
    · intro y0 y1 y2
      unfold cnf_Right.j0
      repeat' first
      | (with_reducible exact ih0 _ _ _)
      | (with_reducible exact ih1 _ _ _ _ _)
      | (with_reducible exact lit_Right.mono _ _ _)
      | (with_reducible exact LeO.refl _)
      | (with_reducible exact LeO.none _)
      | (with_reducible refine LeO.ite ?_ ?_)
      | (with_reducible refine LeO.bind ?_ (fun _ => ?_))
      | exact ih0 _ _ _
      | exact ih1 _ _ _ _ _
      | exact lit_Right.mono _ _ _
      | exact LeO.none _
      | refine LeO.ite ?_ ?_
      | refine LeO.bind ?_ (fun _ => ?_)
    · intro y0 y1 y2 y3 y4
      unfold cnf_Right.l0
      repeat' first
      | (with_reducible exact ih0 _ _ _)
      | (with_reducible exact ih1 _ _ _ _ _)
      | (with_reducible exact lit_Right.mono _ _ _)
      | (with_reducible exact LeO.refl _)
      | (with_reducible exact LeO.none _)
      | (with_reducible refine LeO.ite ?_ ?_)
      | (with_reducible refine LeO.bind ?_ (fun _ => ?_))
      | exact ih0 _ _ _
      | exact ih1 _ _ _ _ _
      | exact lit_Right.mono _ _ _
      | exact LeO.none _
      | refine LeO.ite ?_ ?_
      | refine LeO.bind ?_ (fun _ => ?_)
theorem cnf_Right.mono : ∀ a0 a1 k, LeO (cnf_Right.f k a0 a1) (cnf_Right.f (k + 1) a0 a1) := by
  intro a0 a1 k
  obtain ⟨ih0, ih1⟩ := cnf_Right.mono_l k
  unfold cnf_Right.f
  repeat' first
      | (with_reducible exact ih0 _ _ _)
      | (with_reducible exact ih1 _ _ _ _ _)
      | (with_reducible exact lit_Right.mono _ _ _)
      | (with_reducible exact LeO.refl _)
      | (with_reducible exact LeO.none _)
      | (with_reducible refine LeO.ite ?_ ?_)
      | (with_reducible refine LeO.bind ?_ (fun _ => ?_))
      | exact ih0 _ _ _
      | exact ih1 _ _ _ _ _
      | exact lit_Right.mono _ _ _
      | exact LeO.none _
      | refine LeO.ite ?_ ?_
      | refine LeO.bind ?_ (fun _ => ?_)
set_option maxHeartbeats 8000000 in
set_option maxRecDepth 100000 in
theorem cnf_Right.calls (k : Nat) (a0_0 : Int) (A0_1 : Option Addr) (c0_1 : Nat) (l0_1 : List (List Int)) (r1 : Int) (r2 : Int) (w : World) (hr0_1 : Kd.C (Kd.slice 3 (Kd.int .i64)) w A0_1 l0_1.length l0_1) (hc0_1 : l0_1.length ≤ c0_1) (h : cnf_Right.f k a0_0 l0_1 = some (r1, r2)) :
    Calls Try.prog 51 #[.agg #[.int .i64 a0_0, .slice A0_1 l0_1.length c0_1]] w fun e w' => e = .returned (.tuple #[.int .i64 r1, .int .i64 r2]) ∧ Below w.heap.size w w' := by
  have hu29 := Try.underlying29
  have HR0_1 := Aside0.mk hr0_1
  have HC0_1 := Aside0.mk hc0_1
  clear hr0_1 hc0_1
  have HB := Aside0.mk (Below.refl w.heap.size w)
  have H : (if a0_0 < 0 then (cnf_Right.j0 k true a0_0 l0_1) else (cnf_Right.j0 k (decide (a0_0 > 1024)) a0_0 l0_1)) = some (r1, r2) := h
  clear h
  have HC2 := Aside0.mk H
  clear H
  go_enter Try.func51, Try.ntmps51
  go_upto_region 1 with (first | ((with_reducible refine gate_dst (N := 1) rfl ?_); refine box_event ?hg (N := 1) ?hd (cs := #[.int .i64 a0_0, .slice A0_1 l0_1.length c0_1]) (t := 29) ?hr ?_; (case hd => rfl); (case hg => rfl); (case hr => first | (go_simp; done) | (go_simp; rfl)); intro gb113 hg w3 hbox hb; have n0_ := Aside0.mk (below_step (by repeat (first | (with_reducible first | exact HB.out | apply below_alloc | apply pw_below_drewN | apply below_drew1) | exact HB.out)) hb); have n1_ := Aside0.mk (hbox); have n2_ := Aside0.mk ((by rw [hg]; exact (below_size (by repeat (first | (with_reducible first | exact HB.out | apply below_alloc | apply pw_below_drewN | apply below_drew1) | exact HB.out))) : w.heap.size ≤ gb113)); have n3_ := Aside0.mk ((by rw [hg]; exact (below_size (by repeat (first | (with_reducible first | exact HB.out | apply below_alloc | apply pw_below_drewN | apply below_drew1) | exact HB.out))) : w.heap.size ≤ gb113)); clear HB; have HB := n0_; have BK113 := n1_; have GW113 := n2_; have GE113 := n3_; clear n0_ n1_ n2_ n3_; clear hb hbox hg))
  (try simp only [Act.put, List.setIfInBounds_toArray, List.set_cons_zero, List.set_cons_succ])
  go_cut [14] (fun v14 wc => ∃ (kq : Nat) (x14_1 : Bool), v14 = .bool x14_1 ∧ Aside0 (cnf_Right.j0 kq x14_1 a0_0 l0_1 = some (r1, r2)) ∧ Aside0 (kq ≤ k) ∧ Aside0 (wc.heap[gb113]? = some (.cells #[.int .i64 a0_0, (.slice A0_1 l0_1.length c0_1)] 29 (0, 0))) ∧ Aside0 (Below w.heap.size w wc))
  case first =>
    have H := HC2.out
    clear HC2
    by_cases c4 : a0_0 < 0
    · rw [if_pos c4] at H
      have c4b0 : decide (a0_0 < 0) = true := decide_eq_true c4
      clear c4
      (first | rw [c4b0] | (simp only [i64_w, i32_w]; rw [c4b0]) | skip)
      as_aux_lemma =>
        have H' := Aside0.mk H
        clear H
        have hcz5_0 : w3.cell? ⟨gb113, 0, none⟩ = some (.int .i64 a0_0) := (blk_cell BK113.out 0).trans rfl
        have hcz5_1 : w3.cell? ⟨gb113, 1, none⟩ = some (.slice A0_1 l0_1.length c0_1) := (blk_cell BK113.out 1).trans rfl
        have hfz5_0 := blk_frozen BK113.out 0
        have hfz5_1 := blk_frozen BK113.out 1
        go_wp2
        go_meet
        case rel => exact ⟨_, (true), (by first | rfl | (simp; done) | (simp [*]; done)), H', ⟨by first | omega | exact Nat.le_refl _⟩, ⟨by (with_reducible repeat (first | refine blk_drewN ?_ _ | refine blk_drew ?_ | refine blk_alloc ?_ _)); exact BK113.out⟩, ⟨by repeat (first | (with_reducible first | exact HB.out | apply below_alloc | apply pw_below_drewN | apply below_drew1 | refine below_set ?_ GE113.out) | exact HB.out)⟩⟩
    · rw [if_neg c4] at H
      have c4b0 : decide (a0_0 < 0) = false := decide_eq_false c4
      clear c4
      (first | rw [c4b0] | (simp only [i64_w, i32_w]; rw [c4b0]) | skip)
      as_aux_lemma =>
        have H' := Aside0.mk H
        clear H
        have hcz6_0 : w3.cell? ⟨gb113, 0, none⟩ = some (.int .i64 a0_0) := (blk_cell BK113.out 0).trans rfl
        have hcz6_1 : w3.cell? ⟨gb113, 1, none⟩ = some (.slice A0_1 l0_1.length c0_1) := (blk_cell BK113.out 1).trans rfl
        have hfz6_0 := blk_frozen BK113.out 0
        have hfz6_1 := blk_frozen BK113.out 1
        go_wp2
        go_meet
        case rel => exact ⟨_, (decide (a0_0 > 1024)), (by first | rfl | (simp; done) | (simp [*]; done)), H', ⟨by first | omega | exact Nat.le_refl _⟩, ⟨by (with_reducible repeat (first | refine blk_drewN ?_ _ | refine blk_drew ?_ | refine blk_alloc ?_ _)); exact BK113.out⟩, ⟨by repeat (first | (with_reducible first | exact HB.out | apply below_alloc | apply pw_below_drewN | apply below_drew1 | refine below_set ?_ GE113.out) | exact HB.out)⟩⟩
  case rest =>
    clear HC2
    try clear p2
    try clear c4
    try clear c4b0
    try clear c5
    try clear hcz5_0
    try clear hcz5_1
    try clear hcz6_0
    try clear hcz6_1
    try clear hfz5_0
    try clear hfz5_1
    try clear hfz6_0
    try clear hfz6_1
    obtain ⟨kq, x14_1, rfl, HA, HJ1, BK113, HB⟩ := hcut
    cases kq with
    | zero => exact absurd HA.out (by simp [cnf_Right.j0])
    | succ kj1 =>
      have H := HA.out
      clear HA
      simp only [cnf_Right.j0] at H
      by_cases c7 : x14_1 = true
      · subst c7
        have H1 : (some ((-1), 1)) = some (r1, r2) := by rw [if_pos rfl] at H; exact H
        clear H
        have H := H1
        clear H1
        as_aux_lemma =>
          simp only [Option.some.injEq, Prod.mk.injEq] at H
          obtain ⟨rfl, rfl⟩ := H
          go_wp2
          go_ret2
          exact ⟨by first | rfl | (simp [errW_none, errW_some] <;> rfl) | (simp [*, errW_none, errW_some] <;> rfl), by repeat (first | (with_reducible first | exact HB.out | apply below_alloc | apply pw_below_drewN | apply below_drew1 | refine below_set ?_ GE113.out) | exact HB.out)⟩
      · replace c7 := Bool.eq_false_iff.mpr c7
        subst c7
        have H1 : (if (l0_1.length : Int) > 4096 then (some ((-1), 2)) else (cnf_Right.l0 kj1 l0_1 (l0_1.length : Int) 0 a0_0 l0_1)) = some (r1, r2) := by rw [if_neg (show ¬ (false = true) by decide)] at H; exact H
        clear H
        have H := H1
        clear H1
        by_cases c8 : (l0_1.length : Int) > 4096
        · rw [if_pos c8] at H
          have c8b0 : decide (4096 < (l0_1.length : Int)) = true := decide_eq_true c8
          have c8b1 : decide (4096 < l0_1.length) = true := decide_eq_true (by omega)
          clear c8
          as_aux_lemma =>
            simp only [Option.some.injEq, Prod.mk.injEq] at H
            obtain ⟨rfl, rfl⟩ := H
            have hcz9_0 : wc.cell? ⟨gb113, 0, none⟩ = some (.int .i64 a0_0) := (blk_cell BK113.out 0).trans rfl
            have hcz9_1 : wc.cell? ⟨gb113, 1, none⟩ = some (.slice A0_1 l0_1.length c0_1) := (blk_cell BK113.out 1).trans rfl
            have hfz9_0 := blk_frozen BK113.out 0
            have hfz9_1 := blk_frozen BK113.out 1
            go_wp2
            go_ret2
            exact ⟨by first | rfl | (simp [errW_none, errW_some] <;> rfl) | (simp [*, errW_none, errW_some] <;> rfl), by repeat (first | (with_reducible first | exact HB.out | apply below_alloc | apply pw_below_drewN | apply below_drew1 | refine below_set ?_ GE113.out) | exact HB.out)⟩
        · rw [if_neg c8] at H
          have c8b0 : decide (4096 < (l0_1.length : Int)) = false := decide_eq_false c8
          have c8b1 : decide (4096 < l0_1.length) = false := decide_eq_false (by omega)
          clear c8
          have H' := Aside0.mk H
          clear H
          have hcz10_0 : wc.cell? ⟨gb113, 0, none⟩ = some (.int .i64 a0_0) := (blk_cell BK113.out 0).trans rfl
          have hcz10_1 : wc.cell? ⟨gb113, 1, none⟩ = some (.slice A0_1 l0_1.length c0_1) := (blk_cell BK113.out 1).trans rfl
          have hfz10_0 := blk_frozen BK113.out 0
          have hfz10_1 := blk_frozen BK113.out 1
          go_wp2
          go_loopg [22] kj1 (fun kq v22 w' => ∃ (x22_2 : Int), v22 = .int .i64 x22_2 ∧ Aside0 (cnf_Right.l0 kq l0_1 (l0_1.length : Int) x22_2 a0_0 l0_1 = some (r1, r2)) ∧ Aside0 (kq ≤ kj1) ∧ Aside0 (w'.heap[gb113]? = some (.cells #[.int .i64 a0_0, (.slice A0_1 l0_1.length c0_1)] 29 (0, 0))) ∧ Aside0 (Below w.heap.size w w'))
          case atStart => exact ⟨(0), (by first | rfl | (simp; done) | (simp [*]; done)), H', ⟨Nat.le_refl _⟩, ⟨by (with_reducible repeat (first | refine blk_drewN ?_ _ | refine blk_drew ?_ | refine blk_alloc ?_ _)); exact BK113.out⟩, ⟨by repeat (first | (with_reducible first | exact HB.out | apply below_alloc | apply pw_below_drewN | apply below_drew1 | refine below_set ?_ GE113.out) | exact HB.out)⟩⟩
          case round =>
            clear H'
            try clear p2
            try clear c4
            try clear c4b0
            try clear c5
            try clear c7
            try clear c8
            try clear c8b0
            try clear c8b1
            try clear hcz10_0
            try clear hcz10_1
            try clear hcz5_0
            try clear hcz5_1
            try clear hcz6_0
            try clear hcz6_1
            try clear hcz9_0
            try clear hcz9_1
            try clear hfz10_0
            try clear hfz10_1
            try clear hfz5_0
            try clear hfz5_1
            try clear hfz6_0
            try clear hfz6_1
            try clear hfz9_0
            try clear hfz9_1
            try clear p2
            obtain ⟨x22_2, rfl, HA, HK2, BK113, HB⟩ := hrel
            cases gk with
            | zero => exact absurd HA.out (by simp [cnf_Right.l0])
            | succ k2 =>
              have H := HA.out
              clear HA
              simp only [cnf_Right.l0] at H
              by_cases c11 : x22_2 < (l0_1.length : Int)
              · rw [if_pos c11] at H
                have c11b0 : decide (x22_2 < (l0_1.length : Int)) = true := decide_eq_true c11
                clear c11
                by_cases c12 : 0 ≤ x22_2
                · rw [if_pos c12] at H
                  have c12b0 : decide (0 ≤ x22_2) = true := decide_eq_true c12
                  clear c12
                  by_cases c13 : x22_2 < (l0_1.length : Int)
                  · rw [if_pos c13] at H
                    have c13b0 : decide (x22_2 < (l0_1.length : Int)) = true := decide_eq_true c13
                    clear c13
                    replace H := Option.bind_eq_some_iff.mp H
                    obtain ⟨t115, A140, H⟩ := H
                    replace H : (if t115 = 0 then (cnf_Right.l0 k2 l0_1 (l0_1.length : Int) (wrap64 (x22_2 + 1)) a0_0 l0_1) else (some (x22_2, t115))) = some (r1, r2) := H
                    have A14 := Aside0.mk A140
                    clear A140
                    by_cases c15 : t115 = 0
                    · rw [if_pos c15] at H
                      have c15b0 : (t115 == 0) = true := beq_iff_eq.mpr c15
                      have c15b1 : (t115 != 0) = false := bne_eq_false_iff_eq.mpr c15
                      clear c15
                      as_aux_lemma =>
                        have H' := Aside0.mk H
                        clear H
                        have p114 : 0 ≤ (x22_2 : Int) := of_decide_eq_true (by first | (with_reducible assumption) | assumption)
                        have q114 : x22_2 < (l0_1.length : Int) := of_decide_eq_true (by first | (with_reducible assumption) | assumption)
                        obtain ⟨ad114, A114_0, c114_0, e114, hx114_0, hl114_0, hi114_0⟩ := at_L3 HR0_1.out x22_2 p114 q114
                        cases e114
                        replace hx114_0 := (HB.out.cell (World.block_lt_of_cell? w _ hx114_0)).trans hx114_0
                        have HR114_0 := Aside0.mk hi114_0
                        have HC114_0 := Aside0.mk hl114_0
                        clear hi114_0 hl114_0
                        replace p114 := eq_true p114
                        replace q114 := eq_true q114
                        have hcz16_0 : wr.cell? ⟨gb113, 0, none⟩ = some (.int .i64 a0_0) := (blk_cell BK113.out 0).trans rfl
                        have hcz16_1 : wr.cell? ⟨gb113, 1, none⟩ = some (.slice (some ad114) l0_1.length c0_1) := (blk_cell BK113.out 1).trans rfl
                        have hfz16_0 := blk_frozen BK113.out 0
                        have hfz16_1 := blk_frozen BK113.out 1
                        go_wp2_with (first | ((with_reducible refine gate_callee (f := 52) rfl ?_); refine goesL_ (some 30) rfl rfl Try.func52 (by kernel_rfl) rfl #[.slice A114_0 (rd_L3 l0_1 x22_2).length c114_0, .int .i64 a0_0] rfl (by (try simp only [List.map_toArray, List.map_cons, List.map_nil]); first | done | rfl | (simp only [List.length_drop, List.length_take]; rfl)) ?_; (with_reducible refine (lit_Right.calls k2 _ _ (rd_L3 l0_1 x22_2) a0_0 t115 _ ?side1 ?side2 A14.out).mono ?_); (case side1 => repeat (first | exact (Kd.C_below HR114_0.out HB.out) | (with_reducible refine Kd.C_alloc ?_ _) | (with_reducible refine Kd.C_drewN ?_ _) | (with_reducible refine Kd.C_drew ?_))); (case side2 => exact HC114_0.out); rintro e w' ⟨rfl, ⟨nd, rfl⟩⟩; refine ⟨_, rfl, ?_⟩))
                        go_roundg k2
                        case measure => have := HJ1.out; have := HK2.out; omega
                        case rel => exact ⟨(wrap64 (x22_2 + 1)), (by first | rfl | (simp; done) | (simp [*]; done)), H', ⟨by have := HJ1.out; have := HK2.out; omega⟩, ⟨by (with_reducible repeat (first | refine blk_drewN ?_ _ | refine blk_drew ?_ | refine blk_alloc ?_ _)); exact BK113.out⟩, ⟨by repeat (first | (with_reducible first | exact HB.out | apply below_alloc | apply pw_below_drewN | apply below_drew1 | refine below_set ?_ GE113.out) | exact HB.out)⟩⟩
                    · rw [if_neg c15] at H
                      have c15b0 : (t115 == 0) = false := beq_eq_false_iff_ne.mpr c15
                      have c15b1 : (t115 != 0) = true := bne_iff_ne.mpr c15
                      as_aux_lemma =>
                        simp only [Option.some.injEq, Prod.mk.injEq] at H
                        obtain ⟨rfl, rfl⟩ := H
                        have p114 : 0 ≤ (x22_2 : Int) := of_decide_eq_true (by first | (with_reducible assumption) | assumption)
                        have q114 : x22_2 < (l0_1.length : Int) := of_decide_eq_true (by first | (with_reducible assumption) | assumption)
                        obtain ⟨ad114, A114_0, c114_0, e114, hx114_0, hl114_0, hi114_0⟩ := at_L3 HR0_1.out x22_2 p114 q114
                        cases e114
                        replace hx114_0 := (HB.out.cell (World.block_lt_of_cell? w _ hx114_0)).trans hx114_0
                        have HR114_0 := Aside0.mk hi114_0
                        have HC114_0 := Aside0.mk hl114_0
                        clear hi114_0 hl114_0
                        replace p114 := eq_true p114
                        replace q114 := eq_true q114
                        have hcz17_0 : wr.cell? ⟨gb113, 0, none⟩ = some (.int .i64 a0_0) := (blk_cell BK113.out 0).trans rfl
                        have hcz17_1 : wr.cell? ⟨gb113, 1, none⟩ = some (.slice (some ad114) l0_1.length c0_1) := (blk_cell BK113.out 1).trans rfl
                        have hfz17_0 := blk_frozen BK113.out 0
                        have hfz17_1 := blk_frozen BK113.out 1
                        go_wp2_with (first | ((with_reducible refine gate_callee (f := 52) rfl ?_); refine goesL_ (some 30) rfl rfl Try.func52 (by kernel_rfl) rfl #[.slice A114_0 (rd_L3 l0_1 x22_2).length c114_0, .int .i64 a0_0] rfl (by (try simp only [List.map_toArray, List.map_cons, List.map_nil]); first | done | rfl | (simp only [List.length_drop, List.length_take]; rfl)) ?_; (with_reducible refine (lit_Right.calls k2 _ _ (rd_L3 l0_1 x22_2) a0_0 t115 _ ?side1 ?side2 A14.out).mono ?_); (case side1 => repeat (first | exact (Kd.C_below HR114_0.out HB.out) | (with_reducible refine Kd.C_alloc ?_ _) | (with_reducible refine Kd.C_drewN ?_ _) | (with_reducible refine Kd.C_drew ?_))); (case side2 => exact HC114_0.out); rintro e w' ⟨rfl, ⟨nd, rfl⟩⟩; refine ⟨_, rfl, ?_⟩))
                        go_ret2
                        exact ⟨by first | rfl | (simp [errW_none, errW_some] <;> rfl) | (simp [*, errW_none, errW_some] <;> rfl), by repeat (first | (with_reducible first | exact HB.out | apply below_alloc | apply pw_below_drewN | apply below_drew1 | refine below_set ?_ GE113.out) | exact HB.out)⟩
                  · rw [if_neg c13] at H
                    exact absurd H (by simp)
                · rw [if_neg c12] at H
                  exact absurd H (by simp)
              · rw [if_neg c11] at H
                have c11b0 : decide (x22_2 < (l0_1.length : Int)) = false := decide_eq_false c11
                clear c11
                as_aux_lemma =>
                  simp only [Option.some.injEq, Prod.mk.injEq] at H
                  obtain ⟨rfl, rfl⟩ := H
                  go_wp2
                  go_ret2
                  exact ⟨by first | rfl | (simp [errW_none, errW_some] <;> rfl) | (simp [*, errW_none, errW_some] <;> rfl), by repeat (first | (with_reducible first | exact HB.out | apply below_alloc | apply pw_below_drewN | apply below_drew1 | refine below_set ?_ GE113.out) | exact HB.out)⟩

end Go.Proofs.Ytkfnaiobgddjpaa.P

-- Printed by wip/tools/pp.py of this claim's session (over the kit's print.py); Lean checks it.
namespace Go.Proofs.Ytkfnaiobgddjpaa.P
open Go.RowKit Go.Proofs.YtkfnaiobgddjpaaW.PrintWords Go.Proofs.YtkfnaiobgddjpaaW.PrintLast Go.Proofs.YtkfnaiobgddjpaaW.PrintMore
attribute [local go_sem] max2_int min2_int max_two min_two max_three min_three max_four min_four   -- for this text's walks alone
set_option linter.unusedVariables false
set_option linter.unusedSimpArgs false

-- SOLO
-- IMPORTS Derived.Deep.DeepCutAuto
/-! ### rup_follows: function 60 -/
/-- A literal set: does it agree with what is set?, and what is set behind it. -/
def sv (V : List Int) (l : Int) : Bool × List Int :=
  if l < 0 then (if rdOf 0 V (-l) = 1 then (false, V) else (true, V.set (-l).toNat (-1)))
  else (if rdOf 0 V l = -1 then (false, V) else (true, V.set l.toNat 1))
set_option maxRecDepth 100000 in
set_option maxHeartbeats 4000000 in
theorem rup_follows_1.calls (l : Int) (V : List Int) (L g B base : Nat) (ok : Nat → Prop) (W : World)
    (hR : Kd.R (Kd.int .i8) 86 W base ok (.slice (some ⟨g, 0, none⟩) L L) V) (hB : W.cell? ⟨B, 0, none⟩ = some (.slice (some ⟨g, 0, none⟩) L L))
    (hl0 : -(L : Int) < l) (hl1 : l < L) (hL : L ≤ 4096) :
    Calls Try.prog 77 #[.int .i64 l, .pointer (some ⟨B, 0, none⟩)] W fun e W' =>
      e = .returned (.bool (sv V l).1) ∧ Kd.R (Kd.int .i8) 86 W' base ok (.slice (some ⟨g, 0, none⟩) L L) (sv V l).2 ∧ W.grownBy W' (some g) ∧ W.heap.size ≤ W'.heap.size := by
  have HR := Aside0.mk hR
  by_cases hneg : l < 0
  · obtain ⟨c1, c2⟩ := Kd.R_celln (0 : Int) hR (-l) (by omega) (by omega)
    have P0 : ((0 : Int) ≤ -l) = True := eq_true (by omega)
    have P1 : (-l < (L : Int)) = True := eq_true (by omega)
    have hw : wrap64 (-l) = -l := by unfold wrap64; omega
    have hd : decide (l < 0) = true := decide_eq_true hneg
    unfold sv
    rw [if_pos hneg]
    clear hR
    by_cases hv : rdOf 0 V (-l) = 1
    · rw [if_pos hv]
      rw [hv] at c1
      go_enter Try.func77, Try.ntmps77
      go_wp2
      go_ret
      exact ⟨rfl, HR.out, ⟨rfl, rfl, rfl, Nat.le_refl _, fun _ _ _ => rfl⟩, Nat.le_refl _⟩
    · rw [if_neg hv]
      have hb : (rdOf 0 V (-l) == 1) = false := beq_eq_false_iff_ne.2 hv
      go_enter Try.func77, Try.ntmps77
      go_wp2
      go_ret
      obtain ⟨h2, h3⟩ := Kd.R_putg HR.out (-l) (-1)
      exact ⟨rfl, h2, h3, h3.size⟩
  · obtain ⟨c1, c2⟩ := Kd.R_celln (0 : Int) hR l (by omega) (by omega)
    have P0 : ((0 : Int) ≤ l) = True := eq_true (by omega)
    have P1 : (l < (L : Int)) = True := eq_true (by omega)
    have hd : decide (l < 0) = false := decide_eq_false hneg
    unfold sv
    rw [if_neg hneg]
    clear hR
    by_cases hv : rdOf 0 V l = -1
    · rw [if_pos hv]
      rw [hv] at c1
      go_enter Try.func77, Try.ntmps77
      go_wp2
      go_ret
      exact ⟨rfl, HR.out, ⟨rfl, rfl, rfl, Nat.le_refl _, fun _ _ _ => rfl⟩, Nat.le_refl _⟩
    · rw [if_neg hv]
      have hb : (rdOf 0 V l == -1) = false := beq_eq_false_iff_ne.2 hv
      go_enter Try.func77, Try.ntmps77
      go_wp2
      go_ret
      obtain ⟨h2, h3⟩ := Kd.R_putg HR.out l 1
      exact ⟨rfl, h2, h3, h3.size⟩
def ab (l : Int) : Int := if l < -l then -l else l
/-- A clause looked at: the open literal, and how many there are (2: many, or it holds). -/
def scan (V : List Int) : List Int → Int → Int → Int × Int
  | [], o, m => (o, m)
  | l :: t, o, m =>
    if rdOf 0 V (ab l) = 0 then (if l = o then scan V t o m else if m + 1 > 1 then (l, m + 1) else scan V t l (m + 1))
    else if (decide (rdOf 0 V (ab l) > 0) == decide (l > 0)) = true then (o, 2) else scan V t o m
/-- All clauses looked at once; none: one is broken. -/
def pass : List (List Int) → List Int → Bool → Option (List Int × Bool)
  | [], V, ag => some (V, ag)
  | c :: t, V, ag => if (scan V c 0 0).2 = 0 then none else if (scan V c 0 0).2 = 1 then pass t (sv V (scan V c 0 0).1).2 true else pass t V ag
def rup_follows.l2 (all : List (List Int)) : Nat → List Int → Option Bool
  | 0, _ => none
  | k + 1, V => match pass all V false with
    | none => some true
    | some (V', ag) => if ag = true then rup_follows.l2 all k V' else some false
/-- The opposites of a clause's literals, set; none: two of them are opposites. -/
def start : List Int → List Int → Option (List Int)
  | [], V => some V
  | l :: t, V => if (sv V (-l)).1 = true then start t (sv V (-l)).2 else none
/-- Its literals lie within. -/
def fits1 (n : Int) (l : List Int) : Prop := ∀ x ∈ l, -n ≤ x ∧ x ≤ n
instance (n : Int) (l : List Int) : Decidable (fits1 n l) := inferInstanceAs (Decidable (∀ x ∈ l, _))
def rup_follows.ok (all : List (List Int)) (n : Int) (cl : List Int) : Prop := 0 ≤ n ∧ n ≤ 1024 ∧ fits1 n cl ∧ ∀ c ∈ all, fits1 n c
instance (all : List (List Int)) (n : Int) (cl : List Int) : Decidable (rup_follows.ok all n cl) := inferInstanceAs (Decidable (_ ∧ _ ∧ _ ∧ ∀ c ∈ all, _))
def rup_follows.f (k : Nat) (all : List (List Int)) (n : Int) (cl : List Int) : Option Bool :=
  if rup_follows.ok all n cl then (match start cl (List.replicate (n + 1).toNat 0) with | none => some true | some V => rup_follows.l2 all k V) else none
theorem scan_mem (V : List Int) : ∀ (c : List Int) (o m : Int), (scan V c o m).1 = o ∨ (scan V c o m).1 ∈ c
  | [], o, m => .inl rfl
  | l :: t, o, m => by
    unfold scan
    split
    · split
      · rename_i h; rcases scan_mem V t o m with h' | h'
        · exact .inl h'
        · exact .inr (List.mem_cons_of_mem _ h')
      · split
        · exact .inr (by simp)
        · rcases scan_mem V t l (m + 1) with h' | h'
          · exact .inr (by rw [h']; simp)
          · exact .inr (List.mem_cons_of_mem _ h')
    · split
      · exact .inl rfl
      · rcases scan_mem V t o m with h' | h'
        · exact .inl h'
        · exact .inr (List.mem_cons_of_mem _ h')
set_option maxRecDepth 100000 in
set_option maxHeartbeats 4000000 in
theorem rup_follows.calls (k : Nat) (A0 : Option Addr) (c0 : Nat) (l0 : List (List Int)) (a1 : Int) (A2 : Option Addr) (c2 : Nat) (l2 : List Int) (r : Bool) (w : World)
    (hr0 : Kd.C (Kd.slice 3 (Kd.int .i64)) w A0 l0.length l0) (hc0 : l0.length ≤ c0) (hr2 : Kd.C (Kd.int .i64) w A2 l2.length l2) (hc2 : l2.length ≤ c2) (h : rup_follows.f k l0 a1 l2 = some r) :
    Calls Try.prog 60 #[.slice A0 l0.length c0, .int .i64 a1, .slice A2 l2.length c2] w fun e w' => e = .returned (.bool r) ∧ Below w.heap.size w w' := by
  have HR0 := Aside0.mk hr0
  have HR2 := Aside0.mk hr2
  have hb0 := hr0.2.1
  have hb2 := hr2.2.1
  unfold rup_follows.f at h
  by_cases hok0 : ¬ rup_follows.ok l0 a1 l2
  · rw [if_neg hok0] at h; cases h
  have hok := Decidable.not_not.1 hok0
  clear hok0
  rw [if_pos hok] at h
  obtain ⟨n, rfl⟩ : ∃ n : Nat, a1 = (n : Int) := ⟨a1.toNat, by have := hok.1; omega⟩
  have hn : n ≤ 1024 := by have := hok.2.1; omega
  obtain ⟨L, hL⟩ : ∃ L : Nat, n + 1 = L := ⟨_, rfl⟩
  have hL' : ((n : Int) + 1).toNat = L := by omega
  have hLi : wrap64 ((n : Int) + 1) = (L : Int) := by unfold wrap64; omega
  rw [hL'] at h
  have H := Aside0.mk h
  have OK := Aside0.mk (show (∀ x ∈ l2, -(L : Int) < -x ∧ -x < L) ∧ ∀ c ∈ l0, ∀ x ∈ c, -(L : Int) < x ∧ x < L from
    ⟨fun x hx => by have := hok.2.2.1 x hx; omega, fun c hc x hx => by have := hok.2.2.2 c hc x hx; omega⟩)
  clear h hok hr0 hr2
  obtain ⟨W1, hW1⟩ : ∃ W1, W1 = w.alloc (.cells (List.replicate L (.int .i8 0)).toArray 86) := ⟨_, rfl⟩
  have HS1 := Aside0.mk (show W1.heap.size = w.heap.size + 1 by rw [hW1]; simp)
  obtain ⟨Z, hZ⟩ : ∃ Z : List Int → World → Prop, Z = fun V W => Kd.R (Kd.int .i8) 86 W w.heap.size (fun _ => True) (.slice (some ⟨w.heap.size, 0, none⟩) L L) V ∧
    W.cell? ⟨W1.heap.size, 0, none⟩ = some (.slice (some ⟨w.heap.size, 0, none⟩) L L) ∧ Below w.heap.size w W ∧ W1.heap.size < W.heap.size := ⟨_, rfl⟩
  have hmk : (Instr.makeSlice 85 (.int .i64 ((n : Int) + 1)) (.int .i64 ((n : Int) + 1))).run Try.prog w = .ok (.slice (some ⟨w.heap.size, 0, none⟩) L L) W1 := by
    have hi0 : (Try.prog.info? 86).map (fun i => (i.zero, i.size, i.bytes)) = some (some (.int .i8 0), 1, 1) := by kernel_rfl
    obtain ⟨i, hi, hi1⟩ := Option.map_eq_some_iff.1 hi0
    simp only [Prod.mk.injEq] at hi1
    obtain ⟨e1, e2, e3⟩ := hi1
    have := run_makeSlice (P := Try.prog) (w := w) 85 86 i (.int .i8 0) Try.underlying85 hi e1 .i64 .i64 ((n : Int) + 1) ((n : Int) + 1) (by omega) (Int.le_refl _) (by rw [e2]; omega) (by rw [e3]; omega) (by omega)
    rw [this, hW1, e2, hL', Nat.mul_one]
    congr 3
    exact Array.toList_inj.1 (toList_madeCells_one _ _)
  have HW1 := Aside0.mk hW1
  have HZd := Aside0.mk hZ
  clear hW1 hZ
  go_enter Try.func60, Try.ntmps60
  go_wp2
  have hz0 : Z (List.replicate L 0) (W1.alloc (.cells #[.slice (some ⟨w.heap.size, 0, none⟩) L L] 85)) := by
    rw [HZd.out]
    have h1 : Kd.R (Kd.int .i8) 86 W1 w.heap.size (fun _ => True) (.slice (some ⟨w.heap.size, 0, none⟩) L L) (List.replicate L (0 : Int)) := by
      rw [HW1.out]
      refine Kd.R_of_own ?_ (fun _ _ => trivial)
      have := own_lit w w.heap.size 86 .i8 (List.replicate L (0 : Int)) (Nat.le_refl _) (by simp; omega)
      simpa [encs, nums] using this
    have hs := HS1.out
    refine ⟨Kd.R_below h1 (below_alloc (Below.refl _ _) _), ?_, ?_, by simp [hs]⟩
    · have := blk_cell (blk_new W1 (.cells #[.slice (some ⟨w.heap.size, 0, none⟩) L L] 85)) 0
      exact this
    · exact below_alloc (by rw [HW1.out]; exact below_alloc (Below.refl _ _) _) _
  have HZ0 := Aside0.mk hz0
  have hzB : ∀ {V : List Int} {W : World}, Z V W → Below w.heap.size w W ∧ Kd.R (Kd.int .i8) 86 W w.heap.size (fun _ => True) (.slice (some ⟨w.heap.size, 0, none⟩) L L) V ∧ W.cell? ⟨W1.heap.size, 0, none⟩ = some (.slice (some ⟨w.heap.size, 0, none⟩) L L) := fun h => by
    rw [HZd.out] at h
    exact ⟨h.2.2.1, h.1, h.2.1⟩
  have hzS : ∀ {V V' : List Int} {W W' : World}, Z V W → Kd.R (Kd.int .i8) 86 W' w.heap.size (fun _ => True) (.slice (some ⟨w.heap.size, 0, none⟩) L L) V' → W.grownBy W' (some w.heap.size) → Z V' W' := fun h hR hg => by
    rw [HZd.out] at h ⊢
    exact ⟨hR, cell_grown hg h.2.1 (by have := HS1.out; simp; omega), h.2.2.1.grown hg h.2.2.1.size (fun k e => by cases e; exact Nat.le_refl _), Nat.lt_of_lt_of_le h.2.2.2 hg.size⟩
  clear hz0 hmk
  go_loopg [10, 25] l2.length (fun gg _ v25 wr => ∃ (i : Nat) (V : List Int), v25 = .int .i64 (i : Int) ∧ Aside0 (i + gg = l2.length) ∧ Aside0 (Z V wr) ∧ Aside0 ((match start (l2.drop i) V with | none => some true | some V => rup_follows.l2 l0 k V) = some r))
  case atStart => exact ⟨0, _, rfl, ⟨by simp⟩, HZ0, H⟩
  case round =>
    obtain ⟨i, V, rfl, hg, hz, hx⟩ := hrel
    by_cases hlt : i < l2.length
    · obtain ⟨ad, e1, x1⟩ := Kd.at_int (Kd.C_below HR2.out (hzB hz.out).1) (i : Int) (by omega) (by omega)
      cases e1
      obtain ⟨y, hy⟩ : ∃ y, l2[i] = y := ⟨_, rfl⟩
      have hrd : rd l2 (i : Int) = y := by simp [rd, hlt, hy]
      rw [hrd] at x1
      simp only [Int.toNat_natCast] at x1
      have hyb := OK.out.1 y (by rw [← hy]; exact List.getElem_mem hlt)
      have hw : wrap64 (-y) = -y := by unfold wrap64; omega
      have hx2 := hx.out
      rw [List.drop_eq_getElem_cons hlt, hy] at hx2
      simp only [start] at hx2
      have P0 : ((0 : Int) ≤ (i : Int)) = True := eq_true (by omega)
      have P1 : ((i : Int) < (l2.length : Int)) = True := eq_true (by omega)
      have P2 : (i < l2.length) = True := eq_true hlt
      have hd : decide ((i : Int) < (l2.length : Int)) = true := decide_eq_true (by omega)
      have HX2 := Aside0.mk hx2
      have HWI := Aside0.mk (show wrap64 ((i : Int) + 1) = ((i + 1 : Nat) : Int) by unfold wrap64; omega)
      clear hx hx2 hrd hy
      go_wp2_with fail
      refine (rup_follows_1.calls (-y) V L w.heap.size W1.heap.size w.heap.size (fun _ => True) wr (hzB hz.out).2.1 (hzB hz.out).2.2 hyb.1 hyb.2 (by omega)).mono ?_
      rintro e' w' ⟨rfl, hR', hg', hs'⟩
      have HZ' := Aside0.mk (hzS hz.out hR' hg')
      clear hR' hg' hs'
      cases hq : (sv V (-y)).1 with
      | true =>
        have hz2 := HX2.out
        rw [if_pos hq] at hz2
        have HZ2 := Aside0.mk hz2
        clear hz2
        go_wp2
        go_roundg (l2.length - (i + 1))
        case measure => have := hg.out; omega
        case rel => exact ⟨i + 1, _, by simp, ⟨by have := hg.out; omega⟩, HZ', HZ2⟩
      | false =>
        have hz2 := HX2.out
        rw [if_neg (by rw [hq]; decide)] at hz2
        simp only [Option.some.injEq] at hz2
        subst hz2
        go_wp2
        go_ret
        exact ⟨rfl, (hzB HZ'.out).1⟩
    · have hd : decide ((i : Int) < (l2.length : Int)) = false := decide_eq_false (by omega)
      have hz2 := hx.out
      rw [List.drop_of_length_le (by omega)] at hz2
      simp only [start] at hz2
      have HZ2 := Aside0.mk (show rup_follows.l2 l0 k V = some r from hz2)
      have HZ1 := hz
      have P2 : (i < l2.length) = False := eq_false hlt
      clear hz2 hx hz hg
      clear HZ0 H HR2
      go_wp2
      go_loopg [11, 13, 14, 15, 17, 18, 36, 37, 38, 42, 43, 44] k (fun gg v11 _ _ _ _ _ _ _ _ _ _ _ wr => ∃ (ag : Bool) (V : List Int), v11 = .bool ag ∧ Aside0 (Z V wr) ∧ Aside0 (if ag = true then rup_follows.l2 l0 gg V = some r else r = false))
      case atStart => exact ⟨true, V, rfl, HZ1, ⟨by rw [if_pos rfl]; exact HZ2.out⟩⟩
      case round =>
        clear HZ1 HZ2
        obtain ⟨ag, V, rfl, hz, hx⟩ := hrel
        cases ag with
        | false =>
          have hr : r = false := by have := hx.out; simpa using this
          subst hr
          go_wp2
          go_ret
          exact ⟨rfl, (hzB hz.out).1⟩
        | true =>
          have hx2 := hx.out
          rw [if_pos rfl] at hx2
          cases gk with
          | zero => simp [rup_follows.l2] at hx2
          | succ q =>
            rw [rup_follows.l2] at hx2
            have HX2 := Aside0.mk hx2
            clear hx hx2
            go_wp2
            go_loopg [11, 13, 14, 15, 17, 18, 38, 42, 43, 44] l0.length (fun gg v11 _ _ _ _ _ v38 _ _ _ wr => ∃ (i : Nat) (ag : Bool) (V : List Int), v38 = .int .i64 (i : Int) ∧ v11 = .bool ag ∧ Aside0 (i + gg = l0.length) ∧ Aside0 (Z V wr) ∧
              Aside0 ((match pass (l0.drop i) V ag with | none => some true | some (V', ag') => if ag' = true then rup_follows.l2 l0 q V' else some false) = some r))
            case atStart => exact ⟨0, false, V, rfl, rfl, ⟨by simp⟩, hz, HX2⟩
            case round =>
              clear HX2 hz
              obtain ⟨i, ag, V, rfl, rfl, hg, hz, hx⟩ := hrel
              by_cases hlt : i < l0.length
              · obtain ⟨ad, A1, c1, e1, x1, hl1, hC1⟩ := at_L3 (Kd.C_below HR0.out (hzB hz.out).1) (i : Int) (by omega) (by omega)
                cases e1
                have hrd : rd_L3 l0 (i : Int) = l0[i] := by simp [rd_L3, hlt]
                have hmem : l0[i] ∈ l0 := List.getElem_mem hlt
                have hx2 := hx.out
                rw [List.drop_eq_getElem_cons hlt] at hx2
                rw [hrd] at x1 hl1 hC1
                obtain ⟨c, hc⟩ : ∃ c, l0[i] = c := ⟨_, rfl⟩
                rw [hc] at hx2 x1 hl1 hC1 hmem
                have hcb := OK.out.2 c hmem
                obtain ⟨S, hS⟩ : ∃ S, scan V c 0 0 = S := ⟨_, rfl⟩
                simp only [pass, hS] at hx2
                have hSb : -(L : Int) < S.1 ∧ S.1 < L := by
                  rcases scan_mem V c 0 0 with h | h
                  · rw [hS] at h; omega
                  · rw [hS] at h; exact hcb _ h
                obtain ⟨S1, S2⟩ := S
                dsimp only at hx2 hSb
                simp only [Int.toNat_natCast] at x1
                have P0 : ((0 : Int) ≤ (i : Int)) = True := eq_true (by omega)
                have P1 : ((i : Int) < (l0.length : Int)) = True := eq_true (by omega)
                have P2 : (i < l0.length) = True := eq_true hlt
                have hd : decide ((i : Int) < (l0.length : Int)) = true := decide_eq_true (by omega)
                have HX2 := Aside0.mk hx2
                have HS := Aside0.mk hS
                have HC1 := Aside0.mk hC1
                have HCB := Aside0.mk hcb
                have hcl := hC1.2.1
                clear hx hx2 hrd hc hS hC1 hcb hmem
                go_upto_block 6 with fail
                go_cut [14, 15] (fun v14 v15 wc => v14 = .int .i64 S1 ∧ v15 = .int .i64 S2 ∧ wc = wr)
                case first =>
                  go_wp2_with fail
                  go_loopg [14, 15, 17, 18, 44] c.length (fun gg v14 v15 _ _ v44 wx => ∃ (j : Nat) (o m : Int), v44 = .int .i64 (j : Int) ∧ v14 = .int .i64 o ∧ v15 = .int .i64 m ∧ Aside0 (m = 0 ∨ m = 1) ∧ Aside0 (j + gg = c.length) ∧ wx = wr ∧ Aside0 (scan V (c.drop j) o m = (S1, S2)))
                  case atStart => exact ⟨0, 0, 0, rfl, rfl, rfl, ⟨.inl rfl⟩, ⟨by simp⟩, rfl, HS⟩
                  case round =>
                    clear HS HX2 x1 hd hg
                    obtain ⟨j, o, m, rfl, rfl, rfl, hm, hg, rfl, hs⟩ := hrel
                    by_cases hjt : j < c.length
                    · obtain ⟨ad2, e2, x2⟩ := Kd.at_int HC1.out (j : Int) (by omega) (by omega)
                      cases e2
                      obtain ⟨y, hy⟩ : ∃ y, c[j] = y := ⟨_, rfl⟩
                      have hrd : rd c (j : Int) = y := by simp [rd, hjt, hy]
                      rw [hrd] at x2
                      simp only [Int.toNat_natCast] at x2
                      have hyb := HCB.out y (by rw [← hy]; exact List.getElem_mem hjt)
                      have hw : wrap64 (-y) = -y := by unfold wrap64; omega
                      have hs2 := hs.out
                      rw [List.drop_eq_getElem_cons hjt, hy] at hs2
                      rw [scan] at hs2
                      obtain ⟨a, ha⟩ : ∃ a, ab y = a := ⟨_, rfl⟩
                      obtain ⟨v, hv⟩ : ∃ v, rdOf 0 V a = v := ⟨_, rfl⟩
                      have ha0 : 0 ≤ a ∧ a < L := by rw [← ha]; unfold ab; split <;> omega
                      obtain ⟨cc, cf⟩ := Kd.R_celln (0 : Int) (hzB hz.out).2.1 a ha0.1 ha0.2
                      have cb := (hzB hz.out).2.2
                      rw [hv] at cc
                      rw [ha, hv] at hs2
                      have hmx : (if y < -y then -y else y) = a := ha
                      have P3 : ((0 : Int) ≤ (j : Int)) = True := eq_true (by omega)
                      have P4 : ((j : Int) < (c.length : Int)) = True := eq_true (by omega)
                      have P5 : (j < c.length) = True := eq_true hjt
                      have hd5 : decide ((j : Int) < (c.length : Int)) = true := decide_eq_true (by omega)
                      have Q0 : ((0 : Int) ≤ a) = True := eq_true ha0.1
                      have Q1 : (a < (L : Int)) = True := eq_true ha0.2
                      clear hrd hy ha hv
                      have HS2 := Aside0.mk hs2
                      clear hs hs2
                      rcases hm.out with rfl | rfl
                      · by_cases hv0 : v = 0
                        · subst hv0
                          by_cases hyo : y = o
                          · subst hyo
                            have hq := HS2.out
                            rw [if_pos rfl, if_pos rfl] at hq
                            have HQ := Aside0.mk hq
                            clear hq HS2
                            go_wp2
                            go_roundg (c.length - (j + 1))
                            case measure => have := hg.out; omega
                            case rel => exact ⟨j + 1, y, 0, by simp, rfl, rfl, ⟨.inl rfl⟩, ⟨by omega⟩, rfl, HQ⟩
                          · have hq := HS2.out
                            have hne : (y != o) = true := by simpa using hyo
                            have hne2 : (y == o) = false := by simpa using hyo
                            rw [if_pos rfl, if_neg hyo, if_neg (by decide)] at hq
                            have HQ := Aside0.mk hq
                            clear hq HS2
                            go_wp2
                            go_roundg (c.length - (j + 1))
                            case measure => have := hg.out; omega
                            case rel => exact ⟨j + 1, y, 1, by simp, rfl, rfl, ⟨.inr rfl⟩, ⟨by omega⟩, rfl, HQ⟩
                        · have hv1 : (v == 0) = false := beq_eq_false_iff_ne.2 hv0
                          have hq := HS2.out
                          rw [if_neg hv0] at hq
                          clear HS2
                          by_cases hp : 0 < v
                          · have hp1 : decide (0 < v) = true := by simpa using hp
                            by_cases hr : 0 < y
                            · have hr1 : decide (0 < y) = true := by simpa using hr
                              clear hp hr
                              rw [show decide (v > 0) = true from hp1, show decide (y > 0) = true from hr1] at hq
                              rw [if_pos (by decide)] at hq
                              simp only [Prod.mk.injEq] at hq
                              obtain ⟨rfl, rfl⟩ := hq
                              go_wp2
                              go_meet
                              case rel => exact ⟨rfl, rfl, rfl⟩
                            · have hr1 : decide (0 < y) = false := by simpa using hr
                              clear hp hr
                              rw [show decide (v > 0) = true from hp1, show decide (y > 0) = false from hr1] at hq
                              rw [if_neg (by decide)] at hq
                              have HQ := Aside0.mk hq
                              clear hq
                              go_wp2
                              go_roundg (c.length - (j + 1))
                              case measure => have := hg.out; omega
                              case rel => exact ⟨j + 1, o, 0, by simp, rfl, rfl, ⟨.inl rfl⟩, ⟨by omega⟩, rfl, HQ⟩
                          · have hp1 : decide (0 < v) = false := by simpa using hp
                            by_cases hr : 0 < y
                            · have hr1 : decide (0 < y) = true := by simpa using hr
                              clear hp hr
                              rw [show decide (v > 0) = false from hp1, show decide (y > 0) = true from hr1] at hq
                              rw [if_neg (by decide)] at hq
                              have HQ := Aside0.mk hq
                              clear hq
                              go_wp2
                              go_roundg (c.length - (j + 1))
                              case measure => have := hg.out; omega
                              case rel => exact ⟨j + 1, o, 0, by simp, rfl, rfl, ⟨.inl rfl⟩, ⟨by omega⟩, rfl, HQ⟩
                            · have hr1 : decide (0 < y) = false := by simpa using hr
                              clear hp hr
                              rw [show decide (v > 0) = false from hp1, show decide (y > 0) = false from hr1] at hq
                              rw [if_pos (by decide)] at hq
                              simp only [Prod.mk.injEq] at hq
                              obtain ⟨rfl, rfl⟩ := hq
                              go_wp2
                              go_meet
                              case rel => exact ⟨rfl, rfl, rfl⟩
                      · by_cases hv0 : v = 0
                        · subst hv0
                          by_cases hyo : y = o
                          · subst hyo
                            have hq := HS2.out
                            rw [if_pos rfl, if_pos rfl] at hq
                            have HQ := Aside0.mk hq
                            clear hq HS2
                            go_wp2
                            go_roundg (c.length - (j + 1))
                            case measure => have := hg.out; omega
                            case rel => exact ⟨j + 1, y, 1, by simp, rfl, rfl, ⟨.inr rfl⟩, ⟨by omega⟩, rfl, HQ⟩
                          · have hq := HS2.out
                            have hne : (y != o) = true := by simpa using hyo
                            have hne2 : (y == o) = false := by simpa using hyo
                            rw [if_pos rfl, if_neg hyo, if_pos (by decide)] at hq
                            simp only [Prod.mk.injEq] at hq
                            obtain ⟨rfl, rfl⟩ := hq
                            clear HS2
                            go_wp2
                            go_meet
                            case rel => exact ⟨rfl, rfl, rfl⟩
                        · have hv1 : (v == 0) = false := beq_eq_false_iff_ne.2 hv0
                          have hq := HS2.out
                          rw [if_neg hv0] at hq
                          clear HS2
                          by_cases hp : 0 < v
                          · have hp1 : decide (0 < v) = true := by simpa using hp
                            by_cases hr : 0 < y
                            · have hr1 : decide (0 < y) = true := by simpa using hr
                              clear hp hr
                              rw [show decide (v > 0) = true from hp1, show decide (y > 0) = true from hr1] at hq
                              rw [if_pos (by decide)] at hq
                              simp only [Prod.mk.injEq] at hq
                              obtain ⟨rfl, rfl⟩ := hq
                              go_wp2
                              go_meet
                              case rel => exact ⟨rfl, rfl, rfl⟩
                            · have hr1 : decide (0 < y) = false := by simpa using hr
                              clear hp hr
                              rw [show decide (v > 0) = true from hp1, show decide (y > 0) = false from hr1] at hq
                              rw [if_neg (by decide)] at hq
                              have HQ := Aside0.mk hq
                              clear hq
                              go_wp2
                              go_roundg (c.length - (j + 1))
                              case measure => have := hg.out; omega
                              case rel => exact ⟨j + 1, o, 1, by simp, rfl, rfl, ⟨.inr rfl⟩, ⟨by omega⟩, rfl, HQ⟩
                          · have hp1 : decide (0 < v) = false := by simpa using hp
                            by_cases hr : 0 < y
                            · have hr1 : decide (0 < y) = true := by simpa using hr
                              clear hp hr
                              rw [show decide (v > 0) = false from hp1, show decide (y > 0) = true from hr1] at hq
                              rw [if_neg (by decide)] at hq
                              have HQ := Aside0.mk hq
                              clear hq
                              go_wp2
                              go_roundg (c.length - (j + 1))
                              case measure => have := hg.out; omega
                              case rel => exact ⟨j + 1, o, 1, by simp, rfl, rfl, ⟨.inr rfl⟩, ⟨by omega⟩, rfl, HQ⟩
                            · have hr1 : decide (0 < y) = false := by simpa using hr
                              clear hp hr
                              rw [show decide (v > 0) = false from hp1, show decide (y > 0) = false from hr1] at hq
                              rw [if_pos (by decide)] at hq
                              simp only [Prod.mk.injEq] at hq
                              obtain ⟨rfl, rfl⟩ := hq
                              go_wp2
                              go_meet
                              case rel => exact ⟨rfl, rfl, rfl⟩
                    · have hd5 : decide ((j : Int) < (c.length : Int)) = false := decide_eq_false (by omega)
                      have P5 : (j < c.length) = False := eq_false hjt
                      have hq := hs.out
                      rw [List.drop_of_length_le (by omega)] at hq
                      simp only [scan, Prod.mk.injEq] at hq
                      obtain ⟨rfl, rfl⟩ := hq
                      go_wp2
                      go_meet
                      case rel => exact ⟨rfl, rfl, rfl⟩
                case rest =>
                  obtain ⟨rfl, rfl, rfl⟩ := hcut
                  by_cases h0 : S2 = 0
                  · subst h0
                    have hq := HX2.out
                    simp only [if_true, Option.some.injEq] at hq
                    subst hq
                    clear HX2
                    go_wp2
                    go_ret
                    exact ⟨rfl, (hzB hz.out).1⟩
                  · have n0 : (S2 == 0) = false := beq_eq_false_iff_ne.2 h0
                    by_cases h1 : S2 = 1
                    · subst h1
                      have hq := HX2.out
                      rw [if_neg (by decide), if_pos rfl] at hq
                      have HQ := Aside0.mk hq
                      clear hq HX2
                      go_wp2_with fail
                      refine (rup_follows_1.calls S1 V L w.heap.size W1.heap.size w.heap.size (fun _ => True) _ (hzB hz.out).2.1 (hzB hz.out).2.2 hSb.1 hSb.2 (by omega)).mono ?_
                      rintro e' w' ⟨rfl, hR', hg', hs'⟩
                      have HZ' := Aside0.mk (hzS hz.out hR' hg')
                      clear hR' hg' hs'
                      go_wp2
                      go_roundg (l0.length - (i + 1))
                      case measure => have := hg.out; omega
                      case rel => exact ⟨i + 1, true, _, by simp, rfl, ⟨by omega⟩, HZ', HQ⟩
                    · have n1 : (S2 == 1) = false := beq_eq_false_iff_ne.2 h1
                      have hq := HX2.out
                      rw [if_neg h0, if_neg h1] at hq
                      have HQ := Aside0.mk hq
                      clear hq HX2
                      go_wp2
                      go_roundg (l0.length - (i + 1))
                      case measure => have := hg.out; omega
                      case rel => exact ⟨i + 1, ag, V, by simp, rfl, ⟨by omega⟩, hz, HQ⟩
              · have hd : decide ((i : Int) < (l0.length : Int)) = false := decide_eq_false (by omega)
                have hx2 := hx.out
                rw [List.drop_of_length_le (by omega)] at hx2
                simp only [pass] at hx2
                have HX2 := Aside0.mk hx2
                clear hx hx2
                go_wp2
                go_roundg q
                case measure => omega
                case rel =>
                  refine ⟨ag, V, rfl, hz, ⟨?_⟩⟩
                  have := HX2.out
                  cases ag <;> simpa using this
theorem rup_follows.mono_l (all : List (List Int)) : ∀ (k : Nat) (V : List Int), LeO (rup_follows.l2 all k V) (rup_follows.l2 all (k + 1) V)
  | 0, _ => LeO.none _
  | k + 1, V => by
    rw [rup_follows.l2, rup_follows.l2]
    rcases pass all V false with _ | ⟨V', ag⟩
    · exact LeO.refl _
    · exact LeO.ite (rup_follows.mono_l all k V') (LeO.refl _)
theorem rup_follows.mono : ∀ all n cl k, LeO (rup_follows.f k all n cl) (rup_follows.f (k + 1) all n cl) := by
  intro all n cl k
  unfold rup_follows.f
  refine LeO.ite ?_ (LeO.refl _)
  rcases start cl (List.replicate (n + 1).toNat 0) with _ | V
  · exact LeO.refl _
  · exact rup_follows.mono_l all k V


end Go.Proofs.Ytkfnaiobgddjpaa.P

-- Printed by wip/tools/pp.py of this claim's session (over the kit's print.py); Lean checks it.
namespace Go.Proofs.Ytkfnaiobgddjpaa.P
open Go.RowKit Go.Proofs.YtkfnaiobgddjpaaW.PrintWords Go.Proofs.YtkfnaiobgddjpaaW.PrintLast Go.Proofs.YtkfnaiobgddjpaaW.PrintMore
attribute [local go_sem] max2_int min2_int max_two min_two max_three min_three max_four min_four   -- for this text's walks alone
set_option linter.unusedVariables false
set_option linter.unusedSimpArgs false

/-! ### rup_Step: function 39 -/
def rup_Step.f (k : Nat) (a0_0 : Int) (l0_1 : List (List Int)) (l1 : List Int) : Option (Bool × Int) := (cnf_Right.f k a0_0 l0_1).bind fun bt366 => (if bt366.2 = 0 then ((lit_Right.f k l1 a0_0).bind fun t368 => (if t368 = 0 then ((rup_follows.f k l0_1 a0_0 l1).bind fun t369 => (some (t369, 0))) else (some (false, t368)))) else (some (false, bt366.2)))
theorem rup_Step.mono : ∀ a0 a1 a2 k, LeO (rup_Step.f k a0 a1 a2) (rup_Step.f (k + 1) a0 a1 a2) := by
  intro a0 a1 a2 k
  unfold rup_Step.f
  repeat' first
      | (with_reducible exact cnf_Right.mono _ _ _)
      | (with_reducible exact lit_Right.mono _ _ _)
      | (with_reducible exact rup_follows.mono _ _ _ _)
      | (with_reducible exact LeO.refl _)
      | (with_reducible exact LeO.none _)
      | (with_reducible refine LeO.ite ?_ ?_)
      | (with_reducible refine LeO.bind ?_ (fun _ => ?_))
      | exact cnf_Right.mono _ _ _
      | exact lit_Right.mono _ _ _
      | exact rup_follows.mono _ _ _ _
      | exact LeO.none _
      | refine LeO.ite ?_ ?_
      | refine LeO.bind ?_ (fun _ => ?_)
set_option maxHeartbeats 8000000 in
set_option maxRecDepth 100000 in
theorem rup_Step.calls (k : Nat) (a0_0 : Int) (A0_1 : Option Addr) (c0_1 : Nat) (l0_1 : List (List Int)) (A1 : Option Addr) (c1 : Nat) (l1 : List Int) (r1 : Bool) (r2 : Int) (w : World) (hr0_1 : Kd.C (Kd.slice 3 (Kd.int .i64)) w A0_1 l0_1.length l0_1) (hc0_1 : l0_1.length ≤ c0_1) (hr1 : Kd.C (Kd.int .i64) w A1 l1.length l1) (hc1 : l1.length ≤ c1) (h : rup_Step.f k a0_0 l0_1 l1 = some (r1, r2)) :
    Calls Try.prog 39 #[.agg #[.int .i64 a0_0, .slice A0_1 l0_1.length c0_1], .slice A1 l1.length c1] w fun e w' => e = .returned (.tuple #[.bool r1, .int .i64 r2]) ∧ Below w.heap.size w w' := by
  have hu29 := Try.underlying29
  have HR0_1 := Aside0.mk hr0_1
  have HC0_1 := Aside0.mk hc0_1
  clear hr0_1 hc0_1
  have HR1 := Aside0.mk hr1
  have HC1 := Aside0.mk hc1
  clear hr1 hc1
  have HB := Aside0.mk (Below.refl w.heap.size w)
  have H : ((cnf_Right.f k a0_0 l0_1).bind fun bt366 => (if bt366.2 = 0 then ((lit_Right.f k l1 a0_0).bind fun t368 => (if t368 = 0 then ((rup_follows.f k l0_1 a0_0 l1).bind fun t369 => (some (t369, 0))) else (some (false, t368)))) else (some (false, bt366.2)))) = some (r1, r2) := h
  clear h
  replace H := Option.bind_eq_some_iff.mp H
  obtain ⟨⟨t366, t367⟩, A30, H⟩ := H
  replace H : (if t367 = 0 then ((lit_Right.f k l1 a0_0).bind fun t368 => (if t368 = 0 then ((rup_follows.f k l0_1 a0_0 l1).bind fun t369 => (some (t369, 0))) else (some (false, t368)))) else (some (false, t367))) = some (r1, r2) := H
  have A3 := Aside0.mk A30
  clear A30
  by_cases c4 : t367 = 0
  · rw [if_pos c4] at H
    have c4b0 : (t367 == 0) = true := beq_iff_eq.mpr c4
    have c4b1 : (t367 != 0) = false := bne_eq_false_iff_eq.mpr c4
    clear c4
    replace H := Option.bind_eq_some_iff.mp H
    obtain ⟨t368, A50, H⟩ := H
    replace H : (if t368 = 0 then ((rup_follows.f k l0_1 a0_0 l1).bind fun t369 => (some (t369, 0))) else (some (false, t368))) = some (r1, r2) := H
    have A5 := Aside0.mk A50
    clear A50
    by_cases c6 : t368 = 0
    · rw [if_pos c6] at H
      have c6b0 : (t368 == 0) = true := beq_iff_eq.mpr c6
      have c6b1 : (t368 != 0) = false := bne_eq_false_iff_eq.mpr c6
      clear c6
      replace H := Option.bind_eq_some_iff.mp H
      obtain ⟨t369, A70, H⟩ := H
      replace H : (some (t369, 0)) = some (r1, r2) := H
      have A7 := Aside0.mk A70
      clear A70
      as_aux_lemma =>
        simp only [Option.some.injEq, Prod.mk.injEq] at H
        obtain ⟨rfl, rfl⟩ := H
        go_enter Try.func39, Try.ntmps39
        go_wp2_with (first | ((with_reducible refine gate_dst (N := 2) rfl ?_); refine box_event ?hg (N := 2) ?hd (cs := #[.int .i64 a0_0, .slice A0_1 l0_1.length c0_1]) (t := 29) ?hr ?_; (case hd => rfl); (case hg => rfl); (case hr => first | (go_simp; done) | (go_simp; rfl)); intro gb365 hg w8 hbox hb; have n0_ := Aside0.mk (below_step (by repeat (first | (with_reducible first | exact HB.out | apply below_alloc | apply pw_below_drewN | apply below_drew1) | exact HB.out)) hb); have n1_ := Aside0.mk (hbox); have n2_ := Aside0.mk ((by rw [hg]; exact (below_size (by repeat (first | (with_reducible first | exact HB.out | apply below_alloc | apply pw_below_drewN | apply below_drew1) | exact HB.out))) : w.heap.size ≤ gb365)); have n3_ := Aside0.mk ((by rw [hg]; exact (below_size (by repeat (first | (with_reducible first | exact HB.out | apply below_alloc | apply pw_below_drewN | apply below_drew1) | exact HB.out))) : w.heap.size ≤ gb365)); clear HB; have HB := n0_; have BK365 := n1_; have GW365 := n2_; have GE365 := n3_; clear n0_ n1_ n2_ n3_; clear hb hbox hg; have hcz9_0 : w8.cell? ⟨gb365, 0, none⟩ = some (.int .i64 a0_0) := (blk_cell BK365.out 0).trans rfl; have hcz9_1 : w8.cell? ⟨gb365, 1, none⟩ = some (.slice A0_1 l0_1.length c0_1) := (blk_cell BK365.out 1).trans rfl; have hfz9_0 := blk_frozen BK365.out 0; have hfz9_1 := blk_frozen BK365.out 1) | ((with_reducible refine gate_callee (f := 51) rfl ?_); refine goesL_ (some 11) rfl rfl Try.func51 (by kernel_rfl) rfl #[.agg #[.int .i64 a0_0, .slice A0_1 l0_1.length c0_1]] rfl (by (try simp only [List.map_toArray, List.map_cons, List.map_nil]); first | done | rfl | (simp only [List.length_drop, List.length_take]; rfl)) ?_; (with_reducible refine (cnf_Right.calls k a0_0 _ _ l0_1 t366 t367 _ ?side1 ?side2 A3.out).mono ?_); (case side1 => repeat (first | exact (Kd.C_below HR0_1.out HB.out) | (with_reducible refine Kd.C_alloc ?_ _) | (with_reducible refine Kd.C_drewN ?_ _) | (with_reducible refine Kd.C_drew ?_))); (case side2 => exact HC0_1.out); rintro e w10 ⟨rfl, hb⟩; refine ⟨_, rfl, ?_⟩; have n0_ := Aside0.mk (blk_below (g := gb365) (o := .cells #[.int .i64 a0_0, .slice A0_1 l0_1.length c0_1] 29 (0, 0)) (by (with_reducible repeat (first | refine blk_drewN ?_ _ | refine blk_drew ?_ | refine blk_alloc ?_ _)); exact BK365.out) hb); have n1_ := Aside0.mk (below_step (by repeat (first | (with_reducible first | exact HB.out | apply below_alloc | apply pw_below_drewN | apply below_drew1 | refine below_set ?_ GE365.out) | exact HB.out)) hb); clear BK365; clear HB; have BK365 := n0_; have HB := n1_; clear n0_ n1_; (try clear hb); (try clear hb2); (try clear hk); (try clear hi); have hcz11_0 : w10.cell? ⟨gb365, 0, none⟩ = some (.int .i64 a0_0) := (blk_cell BK365.out 0).trans rfl; have hcz11_1 : w10.cell? ⟨gb365, 1, none⟩ = some (.slice A0_1 l0_1.length c0_1) := (blk_cell BK365.out 1).trans rfl; have hfz11_0 := blk_frozen BK365.out 0; have hfz11_1 := blk_frozen BK365.out 1) | ((with_reducible refine gate_callee (f := 52) rfl ?_); refine goesL_ (some 20) rfl rfl Try.func52 (by kernel_rfl) rfl #[.slice A1 l1.length c1, .int .i64 a0_0] rfl (by (try simp only [List.map_toArray, List.map_cons, List.map_nil]); first | done | rfl | (simp only [List.length_drop, List.length_take]; rfl)) ?_; (with_reducible refine (lit_Right.calls k _ _ l1 a0_0 t368 _ ?side1 ?side2 A5.out).mono ?_); (case side1 => repeat (first | exact (Kd.C_below HR1.out HB.out) | (with_reducible refine Kd.C_alloc ?_ _) | (with_reducible refine Kd.C_drewN ?_ _) | (with_reducible refine Kd.C_drew ?_))); (case side2 => exact HC1.out); rintro e w' ⟨rfl, ⟨nd, rfl⟩⟩; refine ⟨_, rfl, ?_⟩) | ((with_reducible refine gate_callee (f := 60) rfl ?_); refine goesL_ (some 29) rfl rfl Try.func60 (by kernel_rfl) rfl #[.slice A0_1 l0_1.length c0_1, .int .i64 a0_0, .slice A1 l1.length c1] rfl (by (try simp only [List.map_toArray, List.map_cons, List.map_nil]); first | done | rfl | (simp only [List.length_drop, List.length_take]; rfl)) ?_; (with_reducible refine (rup_follows.calls k _ _ l0_1 a0_0 _ _ l1 t369 _ ?side1 ?side2 ?side3 ?side4 A7.out).mono ?_); (case side1 => repeat (first | exact (Kd.C_below HR0_1.out (by repeat (first | (with_reducible first | exact HB.out | apply below_alloc | apply pw_below_drewN | apply below_drew1 | refine below_set ?_ GE365.out) | exact HB.out))) | (with_reducible refine Kd.C_alloc ?_ _) | (with_reducible refine Kd.C_drewN ?_ _) | (with_reducible refine Kd.C_drew ?_))); (case side2 => exact HC0_1.out); (case side3 => repeat (first | exact (Kd.C_below HR1.out (by repeat (first | (with_reducible first | exact HB.out | apply below_alloc | apply pw_below_drewN | apply below_drew1 | refine below_set ?_ GE365.out) | exact HB.out))) | (with_reducible refine Kd.C_alloc ?_ _) | (with_reducible refine Kd.C_drewN ?_ _) | (with_reducible refine Kd.C_drew ?_))); (case side4 => exact HC1.out); rintro e w12 ⟨rfl, hb⟩; refine ⟨_, rfl, ?_⟩; have n0_ := Aside0.mk (blk_below (g := gb365) (o := .cells #[.int .i64 a0_0, .slice A0_1 l0_1.length c0_1] 29 (0, 0)) (by (with_reducible repeat (first | refine blk_drewN ?_ _ | refine blk_drew ?_ | refine blk_alloc ?_ _)); exact BK365.out) hb); have n1_ := Aside0.mk (below_step (by repeat (first | (with_reducible first | exact HB.out | apply below_alloc | apply pw_below_drewN | apply below_drew1 | refine below_set ?_ GE365.out) | exact HB.out)) hb); clear BK365; clear HB; have BK365 := n0_; have HB := n1_; clear n0_ n1_; (try clear hb); (try clear hb2); (try clear hk); (try clear hi)))
        go_ret2
        exact ⟨by first | rfl | (simp [errW_none, errW_some] <;> rfl) | (simp [*, errW_none, errW_some] <;> rfl), by repeat (first | (with_reducible first | exact HB.out | apply below_alloc | apply pw_below_drewN | apply below_drew1 | refine below_set ?_ GE365.out) | exact HB.out)⟩
    · rw [if_neg c6] at H
      have c6b0 : (t368 == 0) = false := beq_eq_false_iff_ne.mpr c6
      have c6b1 : (t368 != 0) = true := bne_iff_ne.mpr c6
      as_aux_lemma =>
        simp only [Option.some.injEq, Prod.mk.injEq] at H
        obtain ⟨rfl, rfl⟩ := H
        go_enter Try.func39, Try.ntmps39
        go_wp2_with (first | ((with_reducible refine gate_dst (N := 2) rfl ?_); refine box_event ?hg (N := 2) ?hd (cs := #[.int .i64 a0_0, .slice A0_1 l0_1.length c0_1]) (t := 29) ?hr ?_; (case hd => rfl); (case hg => rfl); (case hr => first | (go_simp; done) | (go_simp; rfl)); intro gb365 hg w13 hbox hb; have n0_ := Aside0.mk (below_step (by repeat (first | (with_reducible first | exact HB.out | apply below_alloc | apply pw_below_drewN | apply below_drew1) | exact HB.out)) hb); have n1_ := Aside0.mk (hbox); have n2_ := Aside0.mk ((by rw [hg]; exact (below_size (by repeat (first | (with_reducible first | exact HB.out | apply below_alloc | apply pw_below_drewN | apply below_drew1) | exact HB.out))) : w.heap.size ≤ gb365)); have n3_ := Aside0.mk ((by rw [hg]; exact (below_size (by repeat (first | (with_reducible first | exact HB.out | apply below_alloc | apply pw_below_drewN | apply below_drew1) | exact HB.out))) : w.heap.size ≤ gb365)); clear HB; have HB := n0_; have BK365 := n1_; have GW365 := n2_; have GE365 := n3_; clear n0_ n1_ n2_ n3_; clear hb hbox hg; have hcz14_0 : w13.cell? ⟨gb365, 0, none⟩ = some (.int .i64 a0_0) := (blk_cell BK365.out 0).trans rfl; have hcz14_1 : w13.cell? ⟨gb365, 1, none⟩ = some (.slice A0_1 l0_1.length c0_1) := (blk_cell BK365.out 1).trans rfl; have hfz14_0 := blk_frozen BK365.out 0; have hfz14_1 := blk_frozen BK365.out 1) | ((with_reducible refine gate_callee (f := 51) rfl ?_); refine goesL_ (some 11) rfl rfl Try.func51 (by kernel_rfl) rfl #[.agg #[.int .i64 a0_0, .slice A0_1 l0_1.length c0_1]] rfl (by (try simp only [List.map_toArray, List.map_cons, List.map_nil]); first | done | rfl | (simp only [List.length_drop, List.length_take]; rfl)) ?_; (with_reducible refine (cnf_Right.calls k a0_0 _ _ l0_1 t366 t367 _ ?side1 ?side2 A3.out).mono ?_); (case side1 => repeat (first | exact (Kd.C_below HR0_1.out HB.out) | (with_reducible refine Kd.C_alloc ?_ _) | (with_reducible refine Kd.C_drewN ?_ _) | (with_reducible refine Kd.C_drew ?_))); (case side2 => exact HC0_1.out); rintro e w15 ⟨rfl, hb⟩; refine ⟨_, rfl, ?_⟩; have n0_ := Aside0.mk (blk_below (g := gb365) (o := .cells #[.int .i64 a0_0, .slice A0_1 l0_1.length c0_1] 29 (0, 0)) (by (with_reducible repeat (first | refine blk_drewN ?_ _ | refine blk_drew ?_ | refine blk_alloc ?_ _)); exact BK365.out) hb); have n1_ := Aside0.mk (below_step (by repeat (first | (with_reducible first | exact HB.out | apply below_alloc | apply pw_below_drewN | apply below_drew1 | refine below_set ?_ GE365.out) | exact HB.out)) hb); clear BK365; clear HB; have BK365 := n0_; have HB := n1_; clear n0_ n1_; (try clear hb); (try clear hb2); (try clear hk); (try clear hi); have hcz16_0 : w15.cell? ⟨gb365, 0, none⟩ = some (.int .i64 a0_0) := (blk_cell BK365.out 0).trans rfl; have hcz16_1 : w15.cell? ⟨gb365, 1, none⟩ = some (.slice A0_1 l0_1.length c0_1) := (blk_cell BK365.out 1).trans rfl; have hfz16_0 := blk_frozen BK365.out 0; have hfz16_1 := blk_frozen BK365.out 1) | ((with_reducible refine gate_callee (f := 52) rfl ?_); refine goesL_ (some 20) rfl rfl Try.func52 (by kernel_rfl) rfl #[.slice A1 l1.length c1, .int .i64 a0_0] rfl (by (try simp only [List.map_toArray, List.map_cons, List.map_nil]); first | done | rfl | (simp only [List.length_drop, List.length_take]; rfl)) ?_; (with_reducible refine (lit_Right.calls k _ _ l1 a0_0 t368 _ ?side1 ?side2 A5.out).mono ?_); (case side1 => repeat (first | exact (Kd.C_below HR1.out HB.out) | (with_reducible refine Kd.C_alloc ?_ _) | (with_reducible refine Kd.C_drewN ?_ _) | (with_reducible refine Kd.C_drew ?_))); (case side2 => exact HC1.out); rintro e w' ⟨rfl, ⟨nd, rfl⟩⟩; refine ⟨_, rfl, ?_⟩))
        go_ret2
        exact ⟨by first | rfl | (simp [errW_none, errW_some] <;> rfl) | (simp [*, errW_none, errW_some] <;> rfl), by repeat (first | (with_reducible first | exact HB.out | apply below_alloc | apply pw_below_drewN | apply below_drew1 | refine below_set ?_ GE365.out) | exact HB.out)⟩
  · rw [if_neg c4] at H
    have c4b0 : (t367 == 0) = false := beq_eq_false_iff_ne.mpr c4
    have c4b1 : (t367 != 0) = true := bne_iff_ne.mpr c4
    as_aux_lemma =>
      simp only [Option.some.injEq, Prod.mk.injEq] at H
      obtain ⟨rfl, rfl⟩ := H
      go_enter Try.func39, Try.ntmps39
      go_wp2_with (first | ((with_reducible refine gate_dst (N := 2) rfl ?_); refine box_event ?hg (N := 2) ?hd (cs := #[.int .i64 a0_0, .slice A0_1 l0_1.length c0_1]) (t := 29) ?hr ?_; (case hd => rfl); (case hg => rfl); (case hr => first | (go_simp; done) | (go_simp; rfl)); intro gb365 hg w17 hbox hb; have n0_ := Aside0.mk (below_step (by repeat (first | (with_reducible first | exact HB.out | apply below_alloc | apply pw_below_drewN | apply below_drew1) | exact HB.out)) hb); have n1_ := Aside0.mk (hbox); have n2_ := Aside0.mk ((by rw [hg]; exact (below_size (by repeat (first | (with_reducible first | exact HB.out | apply below_alloc | apply pw_below_drewN | apply below_drew1) | exact HB.out))) : w.heap.size ≤ gb365)); have n3_ := Aside0.mk ((by rw [hg]; exact (below_size (by repeat (first | (with_reducible first | exact HB.out | apply below_alloc | apply pw_below_drewN | apply below_drew1) | exact HB.out))) : w.heap.size ≤ gb365)); clear HB; have HB := n0_; have BK365 := n1_; have GW365 := n2_; have GE365 := n3_; clear n0_ n1_ n2_ n3_; clear hb hbox hg; have hcz18_0 : w17.cell? ⟨gb365, 0, none⟩ = some (.int .i64 a0_0) := (blk_cell BK365.out 0).trans rfl; have hcz18_1 : w17.cell? ⟨gb365, 1, none⟩ = some (.slice A0_1 l0_1.length c0_1) := (blk_cell BK365.out 1).trans rfl; have hfz18_0 := blk_frozen BK365.out 0; have hfz18_1 := blk_frozen BK365.out 1) | ((with_reducible refine gate_callee (f := 51) rfl ?_); refine goesL_ (some 11) rfl rfl Try.func51 (by kernel_rfl) rfl #[.agg #[.int .i64 a0_0, .slice A0_1 l0_1.length c0_1]] rfl (by (try simp only [List.map_toArray, List.map_cons, List.map_nil]); first | done | rfl | (simp only [List.length_drop, List.length_take]; rfl)) ?_; (with_reducible refine (cnf_Right.calls k a0_0 _ _ l0_1 t366 t367 _ ?side1 ?side2 A3.out).mono ?_); (case side1 => repeat (first | exact (Kd.C_below HR0_1.out HB.out) | (with_reducible refine Kd.C_alloc ?_ _) | (with_reducible refine Kd.C_drewN ?_ _) | (with_reducible refine Kd.C_drew ?_))); (case side2 => exact HC0_1.out); rintro e w19 ⟨rfl, hb⟩; refine ⟨_, rfl, ?_⟩; have n0_ := Aside0.mk (blk_below (g := gb365) (o := .cells #[.int .i64 a0_0, .slice A0_1 l0_1.length c0_1] 29 (0, 0)) (by (with_reducible repeat (first | refine blk_drewN ?_ _ | refine blk_drew ?_ | refine blk_alloc ?_ _)); exact BK365.out) hb); have n1_ := Aside0.mk (below_step (by repeat (first | (with_reducible first | exact HB.out | apply below_alloc | apply pw_below_drewN | apply below_drew1 | refine below_set ?_ GE365.out) | exact HB.out)) hb); clear BK365; clear HB; have BK365 := n0_; have HB := n1_; clear n0_ n1_; (try clear hb); (try clear hb2); (try clear hk); (try clear hi)))
      go_ret2
      exact ⟨by first | rfl | (simp [errW_none, errW_some] <;> rfl) | (simp [*, errW_none, errW_some] <;> rfl), by repeat (first | (with_reducible first | exact HB.out | apply below_alloc | apply pw_below_drewN | apply below_drew1 | refine below_set ?_ GE365.out) | exact HB.out)⟩

end Go.Proofs.Ytkfnaiobgddjpaa.P

-- Printed by wip/tools/pp.py of this claim's session (over the kit's print.py); Lean checks it.
namespace Go.Proofs.Ytkfnaiobgddjpaa.P
open Go.RowKit Go.Proofs.YtkfnaiobgddjpaaW.PrintWords Go.Proofs.YtkfnaiobgddjpaaW.PrintLast Go.Proofs.YtkfnaiobgddjpaaW.PrintMore
attribute [local go_sem] max2_int min2_int max_two min_two max_three min_three max_four min_four   -- for this text's walks alone
set_option linter.unusedVariables false
set_option linter.unusedSimpArgs false

-- SOLO
-- IMPORTS 
/-! ### AUX ix -/
/-- Where the first one stands of which p holds; -1. -/
def ixOf {α : Type} (p : α → Bool) : List α → Int → Int
  | [], _ => -1
  | x :: t, i => if p x = true then i else ixOf p t (i + 1)
theorem ixOf_nil {α : Type} (p : α → Bool) (i : Int) : ixOf p [] i = -1 := rfl
theorem ixOf_drop {α : Type} (p : α → Bool) (xs : List α) (j : Nat) (hj : j < xs.length) : ixOf p (xs.drop j) (j : Int) = if p xs[j] = true then (j : Int) else ixOf p (xs.drop (j + 1)) ((j + 1 : Nat) : Int) := by
  rw [List.drop_eq_getElem_cons hj, ixOf]; rfl


end Go.Proofs.Ytkfnaiobgddjpaa.P

-- Printed by wip/tools/pp.py of this claim's session (over the kit's print.py); Lean checks it.
namespace Go.Proofs.Ytkfnaiobgddjpaa.P
open Go.RowKit Go.Proofs.YtkfnaiobgddjpaaW.PrintWords Go.Proofs.YtkfnaiobgddjpaaW.PrintLast Go.Proofs.YtkfnaiobgddjpaaW.PrintMore
attribute [local go_sem] max2_int min2_int max_two min_two max_three min_three max_four min_four   -- for this text's walks alone
set_option linter.unusedVariables false
set_option linter.unusedSimpArgs false

-- SOLO
-- IMPORTS 
/-! ### AUX slicesLogs -/
set_option maxRecDepth 100000 in
set_option maxHeartbeats 2000000 in
theorem slices_IndexFunc_logs.calls (gf : Nat) (lb : Array Value) (eg : ∀ args w, (callFunc gf args).run Try.prog w = .ok (.enter gf args) w) (p : S64 → Bool) (A : Option Addr) (c : Nat) (xs : List S64) (w : World)
    (hr : Kd.C k64 w A xs.length xs) (hp : ∀ W, Below w.heap.size w W → ∀ x ∈ xs, ∀ (A1 : Option Addr) (c1 : Nat), x.f1.length ≤ c1 → Kd.C (Kd.int .i64) W A1 x.f1.length x.f1 → Calls Try.prog gf (#[.agg #[.bool x.f0, .slice A1 x.f1.length c1]] ++ lb) W fun e W' => e = .returned (.bool (p x)) ∧ Below W.heap.size W W') :
    Calls Try.prog 84 #[.slice A xs.length c, .func (.func gf) #[] lb] w fun e w' => e = .returned (.int .i64 (ixOf p xs 0)) ∧ Below w.heap.size w w' := by
  have HR := Aside0.mk hr
  have HP := Aside0.mk hp
  have hbig := hr.2.1
  have hu64 := Try.underlying64
  clear hr hp
  go_enter Try.func84, Try.ntmps84
  go_wp2
  go_loopg [5, 8] xs.length (fun gg _ s8 wr => ∃ kk : Nat, s8 = .int .i64 (kk : Int) ∧ Aside0 (kk + gg = xs.length) ∧ Aside0 (Below w.heap.size w wr) ∧ Aside0 (ixOf p xs 0 = ixOf p (xs.drop kk) (kk : Int)))
  case atStart => exact ⟨0, rfl, ⟨by simp⟩, ⟨Below.refl _ _⟩, ⟨rfl⟩⟩
  case round =>
    obtain ⟨kk, rfl, hg, hb, hx⟩ := hrel
    by_cases hlt : kk < xs.length
    · obtain ⟨ad, A1, c1, e1, x1, x2, hl1, hC1⟩ := at_T64 (Kd.C_below HR.out hb.out) (kk : Int) (by omega) (by omega)
      cases e1
      obtain ⟨y, hy⟩ : ∃ y, xs[kk] = y := ⟨_, rfl⟩
      have hrd : rd_T64 xs (kk : Int) = y := by simp [rd_T64, hlt, hy]
      rw [hrd] at x1 x2 hl1 hC1
      simp only [Int.toNat_natCast] at x1 x2
      have hcall := HP.out _ hb.out y (by rw [← hy]; exact List.getElem_mem hlt) A1 c1 hl1 hC1
      have hx2 := hx.out
      rw [ixOf_drop p xs kk hlt, hy] at hx2
      have HX2 := Aside0.mk hx2
      clear hx2 hx hrd hy hC1
      have P0 : ((0 : Int) ≤ (kk : Int)) = True := eq_true (by omega)
      have P1 : ((kk : Int) < (xs.length : Int)) = True := eq_true (by omega)
      have P2 : (kk < xs.length) = True := eq_true hlt
      have hd : decide ((kk : Int) < (xs.length : Int)) = true := decide_eq_true (by omega)
      cases hq : p y with
      | true =>
        rw [hq] at hcall
        have hz := HX2.out
        rw [if_pos hq] at hz
        have HZ := Aside0.mk hz
        clear hz
        go_wp2_with fail
        refine hcall.mono ?_
        rintro e w' ⟨rfl, hb'⟩
        go_wp2
        go_ret
        exact ⟨by rw [HZ.out]; rfl, hb.out.trans (hb'.mono hb.out.size)⟩
      | false =>
        rw [hq] at hcall
        have hz := HX2.out
        rw [if_neg (by rw [hq]; decide)] at hz
        have HZ := Aside0.mk hz
        clear hz
        go_wp2_with fail
        refine hcall.mono ?_
        rintro e w' ⟨rfl, hb'⟩
        go_wp2
        go_roundg (xs.length - (kk + 1))
        case measure => have := hg.out; omega
        case rel => exact ⟨kk + 1, by simp, ⟨by omega⟩, ⟨hb.out.trans (hb'.mono hb.out.size)⟩, HZ⟩
    · have hd : decide ((kk : Int) < (xs.length : Int)) = false := decide_eq_false (by omega)
      have hz := hx.out
      rw [List.drop_of_length_le (by omega), ixOf_nil] at hz
      have HZ := Aside0.mk hz
      clear hz hx
      go_wp2
      go_ret
      exact ⟨by rw [HZ.out]; rfl, hb.out⟩
set_option maxRecDepth 100000 in
theorem slices_ContainsFunc_logs.calls (gf : Nat) (lb : Array Value) (eg : ∀ args w, (callFunc gf args).run Try.prog w = .ok (.enter gf args) w) (p : S64 → Bool) (A : Option Addr) (c : Nat) (xs : List S64) (w : World)
    (hr : Kd.C k64 w A xs.length xs) (hp : ∀ W, Below w.heap.size w W → ∀ x ∈ xs, ∀ (A1 : Option Addr) (c1 : Nat), x.f1.length ≤ c1 → Kd.C (Kd.int .i64) W A1 x.f1.length x.f1 → Calls Try.prog gf (#[.agg #[.bool x.f0, .slice A1 x.f1.length c1]] ++ lb) W fun e W' => e = .returned (.bool (p x)) ∧ Below W.heap.size W W') :
    Calls Try.prog 67 #[.slice A xs.length c, .func (.func gf) #[] lb] w fun e w' => e = .returned (.bool (decide (0 ≤ ixOf p xs 0))) ∧ Below w.heap.size w w' := by
  have HC := Aside0.mk (slices_IndexFunc_logs.calls gf lb eg p A c xs w hr hp)
  clear hr hp
  go_enter Try.func67, Try.ntmps67
  go_wp2_with fail
  refine HC.out.mono ?_
  rintro e w' ⟨rfl, hb'⟩
  go_wp2
  go_ret
  exact ⟨by simp, hb'⟩


end Go.Proofs.Ytkfnaiobgddjpaa.P
