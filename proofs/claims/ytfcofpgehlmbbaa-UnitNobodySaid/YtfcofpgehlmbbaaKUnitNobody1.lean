import Derived.Test.YtfcofpgehlmbbaaKUnitNobodyW
import Derived.Test.YtfcofpgehlmbbaaProg
import Derived.Below
import Derived.Deep.Draws
import Derived.Deep.AppendLies
import Derived.Maps.AppendAt
import Derived.OwnWalk
import Derived.Laws.BytesArg
import Derived.Laws.MakeOwn
import Derived.Laws.OwnMore
import Derived.Deep.OwnRows
import Derived.Tactics
import Derived.Lib.ConvBytes
import Derived.Laws.Slices
import Derived.WalkKit
import Derived.KernelRfl
import Derived.RowKit3
import Derived.Deep.LoopGhost
import Derived.Deep.QuietTactic
import Derived.BigQuiet
import Derived.WideLaws
import Derived.Deep.DeepCutAuto
import Derived.Deep.CutBlock
import Derived.Deep.RegionHeld3
import Derived.Laws.Rows
import Derived.Lib.AppendStr
import Derived.ArgAppend
import Derived.Laws.IdiomCopy
import Derived.OrdersHeld
import Derived.Laws.BitsLemmas
import Derived.RowKit
import Derived.Maps.OwnSet
import Derived.Maps.OwnOps
import Derived.Maps.Views
import Derived.WalkSpells
import Derived.RangeFuncCalls
import Derived.Lib.SliceRun
import Derived.StillTailTactics
import Derived.Lib.SlicesCompact
import Derived.Lib.RowBridge
import Derived.Shelf.SlSortCmp.NoneTotal
import Derived.Shelf.Slices.CompactI
-- Printed by wip/tools/pp.py of this claim's session (over the kit's print.py); Lean checks it.
namespace Go.Proofs.Ytfcofpgehlmbbaa.P
open Go.RowKit Go.Proofs.YtfcofpgehlmbbaaW.PrintWords Go.Proofs.YtfcofpgehlmbbaaW.PrintLast Go.Proofs.YtfcofpgehlmbbaaW.PrintMore
attribute [local go_sem] max2_int min2_int max_two min_two max_three min_three max_four min_four   -- for this text's walks alone
set_option linter.unusedVariables false
set_option linter.unusedSimpArgs false



def errW : Option Int → Value
  | none => .nilIface
  | some c => .iface 0 (.int .i64 c)
theorem errW_none : errW none = .nilIface := rfl
theorem errW_some (c : Int) : errW (some c) = .iface 0 (.int .i64 c) := rfl

theorem info3 : (Try.prog.info? 3).map (fun i => (i.zero, i.size, i.bytes)) = some (some (.int .i64 0), 1, 8) := by kernel_rfl
theorem info4 : (Try.prog.info? 4).map (fun i => (i.zero, i.size, i.bytes)) = some (some (.bool false), 1, 1) := by kernel_rfl
theorem info33 : (Try.prog.info? 33).map (fun i => (i.zero, i.size, i.bytes)) = some (some (.slice none 0 0), 1, 24) := by kernel_rfl
-- the values' own types
def rd_L3 (xs : List (List Int)) (i : Int) : (List Int) := xs.getD i.toNat ([] : List Int)
theorem at_L3 {w : World} {A : Option Addr} {n : Nat} {xs : List (List Int)} (h : Kd.C (Kd.slice 3 (Kd.int .i64)) w A n xs) (i : Int) (h0 : 0 ≤ i) (h1 : i < n) : ∃ ad A0 c0, A = some ad ∧ w.cell? (ad.add i.toNat) = some (.slice A0 (rd_L3 xs i).length c0) ∧ (rd_L3 xs i).length ≤ c0 ∧ (Kd.int .i64).C w A0 (rd_L3 xs i).length (rd_L3 xs i) := by
  obtain ⟨ad, c, e, _, hK, hc0⟩ := Kd.C_get h ([] : List Int) i h0 h1
  have hc : ∀ j u, c[j]? = some u → w.cell? (ad.add (i.toNat * 1 + j)) = some u := hc0
  obtain ⟨A0, c0, rfl, l0, g0⟩ := hK
  exact ⟨ad, A0, c0, e, by have hq := hc 0 _ rfl; rwa [Nat.mul_one, Nat.add_zero] at hq, l0, g0⟩

def rd_L4 (xs : List (List Bool)) (i : Int) : (List Bool) := xs.getD i.toNat ([] : List Bool)
theorem at_L4 {w : World} {A : Option Addr} {n : Nat} {xs : List (List Bool)} (h : Kd.C (Kd.slice 4 Kd.bool) w A n xs) (i : Int) (h0 : 0 ≤ i) (h1 : i < n) : ∃ ad A0 c0, A = some ad ∧ w.cell? (ad.add i.toNat) = some (.slice A0 (rd_L4 xs i).length c0) ∧ (rd_L4 xs i).length ≤ c0 ∧ Kd.bool.C w A0 (rd_L4 xs i).length (rd_L4 xs i) := by
  obtain ⟨ad, c, e, _, hK, hc0⟩ := Kd.C_get h ([] : List Bool) i h0 h1
  have hc : ∀ j u, c[j]? = some u → w.cell? (ad.add (i.toNat * 1 + j)) = some u := hc0
  obtain ⟨A0, c0, rfl, l0, g0⟩ := hK
  exact ⟨ad, A0, c0, e, by have hq := hc 0 _ rfl; rwa [Nat.mul_one, Nat.add_zero] at hq, l0, g0⟩

def rd_L5 (xs : List (List ByteArray)) (i : Int) : (List ByteArray) := xs.getD i.toNat ([] : List ByteArray)
theorem at_L5 {w : World} {A : Option Addr} {n : Nat} {xs : List (List ByteArray)} (h : Kd.C (Kd.slice 9 Kd.string) w A n xs) (i : Int) (h0 : 0 ≤ i) (h1 : i < n) : ∃ ad A0 c0, A = some ad ∧ w.cell? (ad.add i.toNat) = some (.slice A0 (rd_L5 xs i).length c0) ∧ (rd_L5 xs i).length ≤ c0 ∧ Kd.string.C w A0 (rd_L5 xs i).length (rd_L5 xs i) := by
  obtain ⟨ad, c, e, _, hK, hc0⟩ := Kd.C_get h ([] : List ByteArray) i h0 h1
  have hc : ∀ j u, c[j]? = some u → w.cell? (ad.add (i.toNat * 1 + j)) = some u := hc0
  obtain ⟨A0, c0, rfl, l0, g0⟩ := hK
  exact ⟨ad, A0, c0, e, by have hq := hc 0 _ rfl; rwa [Nat.mul_one, Nat.add_zero] at hq, l0, g0⟩

def rd_L6 (xs : List (List (List Int))) (i : Int) : (List (List Int)) := xs.getD i.toNat ([] : List (List Int))
theorem at_L6 {w : World} {A : Option Addr} {n : Nat} {xs : List (List (List Int))} (h : Kd.C (Kd.slice 33 (Kd.slice 3 (Kd.int .i64))) w A n xs) (i : Int) (h0 : 0 ≤ i) (h1 : i < n) : ∃ ad A0 c0, A = some ad ∧ w.cell? (ad.add i.toNat) = some (.slice A0 (rd_L6 xs i).length c0) ∧ (rd_L6 xs i).length ≤ c0 ∧ (Kd.slice 3 (Kd.int .i64)).C w A0 (rd_L6 xs i).length (rd_L6 xs i) := by
  obtain ⟨ad, c, e, _, hK, hc0⟩ := Kd.C_get h ([] : List (List Int)) i h0 h1
  have hc : ∀ j u, c[j]? = some u → w.cell? (ad.add (i.toNat * 1 + j)) = some u := hc0
  obtain ⟨A0, c0, rfl, l0, g0⟩ := hK
  exact ⟨ad, A0, c0, e, by have hq := hc 0 _ rfl; rwa [Nat.mul_one, Nat.add_zero] at hq, l0, g0⟩

def rd_L7 (xs : List (List (List Bool))) (i : Int) : (List (List Bool)) := xs.getD i.toNat ([] : List (List Bool))
theorem at_L7 {w : World} {A : Option Addr} {n : Nat} {xs : List (List (List Bool))} (h : Kd.C (Kd.slice 26 (Kd.slice 4 Kd.bool)) w A n xs) (i : Int) (h0 : 0 ≤ i) (h1 : i < n) : ∃ ad A0 c0, A = some ad ∧ w.cell? (ad.add i.toNat) = some (.slice A0 (rd_L7 xs i).length c0) ∧ (rd_L7 xs i).length ≤ c0 ∧ (Kd.slice 4 Kd.bool).C w A0 (rd_L7 xs i).length (rd_L7 xs i) := by
  obtain ⟨ad, c, e, _, hK, hc0⟩ := Kd.C_get h ([] : List (List Bool)) i h0 h1
  have hc : ∀ j u, c[j]? = some u → w.cell? (ad.add (i.toNat * 1 + j)) = some u := hc0
  obtain ⟨A0, c0, rfl, l0, g0⟩ := hK
  exact ⟨ad, A0, c0, e, by have hq := hc 0 _ rfl; rwa [Nat.mul_one, Nat.add_zero] at hq, l0, g0⟩

/-! #### struct type 35 -/
structure S35 where
  f0 : Int
  f1 : Int
  f2 : (List Int)
def z35 : S35 := ⟨(0 : Int), (0 : Int), ([] : List Int)⟩
def k35 : Kd S35 := Kd.iso (Kd.pair (Kd.int .i64) (Kd.pair (Kd.int .i64) (Kd.slice 3 (Kd.int .i64)))) (fun x : S35 => (x.f0, x.f1, x.f2))
theorem k35_heap : Kd.Heap k35 := Kd.heap_iso _ (Kd.heap_pair (Kd.heap_int .i64) (Kd.heap_pair (Kd.heap_int .i64) (Kd.heap_slice 3 (Kd.heap_int .i64))))
theorem k35_open {w : World} {x : S35} {cs : List Value} (h : k35.K w x cs) : ∃ A2 c2, cs = [.int .i64 x.f0, .int .i64 x.f1, .slice A2 x.f2.length c2] ∧ x.f2.length ≤ c2 ∧ (Kd.int .i64).C w A2 x.f2.length x.f2 := by
  obtain ⟨_, _, rfl, rfl, ⟨_, _, rfl, rfl, ⟨A2, c2, rfl, l2, g2⟩⟩⟩ := h
  exact ⟨A2, c2, rfl, l2, g2⟩
theorem k35_openM {w : World} {base : Nat} {ok : Nat → Prop} {x : S35} {cs : List Value} (h : k35.M w base ok x cs) : ∃ v2, cs = [.int .i64 x.f0, .int .i64 x.f1, v2] ∧ (Kd.int .i64).R 3 w base ok v2 x.f2 := by
  obtain ⟨_, _, rfl, rfl, ⟨_, _, rfl, rfl, ⟨v2, rfl, g2⟩⟩⟩ := h
  exact ⟨v2, rfl, g2⟩
theorem k35_mk (w : World) (x : S35) {A2 : Option Addr} {c2 : Nat} (l2 : x.f2.length ≤ c2) (g2 : (Kd.int .i64).C w A2 x.f2.length x.f2) : k35.K w x [.int .i64 x.f0, .int .i64 x.f1, .slice A2 x.f2.length c2] := ⟨[.int .i64 x.f0], [.int .i64 x.f1, .slice A2 x.f2.length c2], rfl, rfl, ⟨[.int .i64 x.f1], [.slice A2 x.f2.length c2], rfl, rfl, ⟨A2, c2, rfl, l2, g2⟩⟩⟩
theorem k35_mkM (w : World) (base : Nat) (ok : Nat → Prop) (x : S35) {v2 : Value} (g2 : (Kd.int .i64).R 3 w base ok v2 x.f2) : k35.M w base ok x [.int .i64 x.f0, .int .i64 x.f1, v2] := ⟨[.int .i64 x.f0], [.int .i64 x.f1, v2], rfl, rfl, ⟨[.int .i64 x.f1], [v2], rfl, rfl, ⟨v2, rfl, g2⟩⟩⟩
theorem k35_openF {W : World} {ok : Nat → Prop} {x : S35} {cs : List Value} (h : Kd.FK k35 W ok x cs) : ∃ A2 c2, cs = [.int .i64 x.f0, .int .i64 x.f1, .slice A2 x.f2.length c2] ∧ x.f2.length ≤ c2 ∧ Kd.F (Kd.int .i64) W ok A2 x.f2.length x.f2 := by
  obtain ⟨A2, c2, rfl, l2, _⟩ := k35_open (Kd.FK_now h)
  exact ⟨A2, c2, rfl, l2, (fun W' hW => by obtain ⟨A2_, c2_, he, l2_, g2_⟩ := k35_open (h W' hW); injection (Option.some.inj (show some (Value.slice A2 x.f2.length c2) = some (Value.slice A2_ x.f2.length c2_) from congrArg (fun l => l[2]?) he)) with ha_ _ _; rw [ha_]; exact g2_)⟩
theorem k35_mkF (W : World) (ok : Nat → Prop) (x : S35) {A2 : Option Addr} {c2 : Nat} (l2 : x.f2.length ≤ c2) (g2 : Kd.F (Kd.int .i64) W ok A2 x.f2.length x.f2) : Kd.FK k35 W ok x [.int .i64 x.f0, .int .i64 x.f1, .slice A2 x.f2.length c2] := fun W2 hW => k35_mk W2 x l2 (g2 W2 hW)
def rd_T35 (xs : List S35) (i : Int) : S35 := xs.getD i.toNat z35
theorem at_T35 {w : World} {A : Option Addr} {n : Nat} {xs : List S35} (h : Kd.C k35 w A n xs) (i : Int) (h0 : 0 ≤ i) (h1 : i < n) : ∃ ad A2 c2, A = some ad ∧ w.cell? (ad.add (i.toNat * 3)) = some (.int .i64 (rd_T35 xs i).f0) ∧ w.cell? ⟨(ad.add (i.toNat * 3)).block, (ad.add (i.toNat * 3)).off + 1, none⟩ = some (.int .i64 (rd_T35 xs i).f1) ∧ w.cell? ⟨(ad.add (i.toNat * 3)).block, (ad.add (i.toNat * 3)).off + 2, none⟩ = some (.slice A2 (rd_T35 xs i).f2.length c2) ∧ (rd_T35 xs i).f2.length ≤ c2 ∧ (Kd.int .i64).C w A2 (rd_T35 xs i).f2.length (rd_T35 xs i).f2 := by
  obtain ⟨ad, c, e, _, hK, hc0⟩ := Kd.C_get h z35 i h0 h1
  have hc : ∀ j u, c[j]? = some u → w.cell? (ad.add (i.toNat * 3 + j)) = some u := hc0
  obtain ⟨A2, c2, rfl, l2, g2⟩ := k35_open hK
  exact ⟨ad, A2, c2, e, hc 0 _ rfl, by rw [← add_field _ _ 1 (by omega)]; exact hc 1 _ rfl, by rw [← add_field _ _ 2 (by omega)]; exact hc 2 _ rfl, l2, g2⟩

/-! #### struct type 132 -/
structure S132 where
  f0 : (List Int)
  f1 : (List Int)
def z132 : S132 := ⟨([] : List Int), ([] : List Int)⟩
def k132 : Kd S132 := Kd.iso (Kd.pair (Kd.slice 3 (Kd.int .i64)) (Kd.slice 3 (Kd.int .i64))) (fun x : S132 => (x.f0, x.f1))
theorem k132_heap : Kd.Heap k132 := Kd.heap_iso _ (Kd.heap_pair (Kd.heap_slice 3 (Kd.heap_int .i64)) (Kd.heap_slice 3 (Kd.heap_int .i64)))
theorem k132_open {w : World} {x : S132} {cs : List Value} (h : k132.K w x cs) : ∃ A0 c0 A1 c1, cs = [.slice A0 x.f0.length c0, .slice A1 x.f1.length c1] ∧ x.f0.length ≤ c0 ∧ (Kd.int .i64).C w A0 x.f0.length x.f0 ∧ x.f1.length ≤ c1 ∧ (Kd.int .i64).C w A1 x.f1.length x.f1 := by
  obtain ⟨_, _, rfl, ⟨A0, c0, rfl, l0, g0⟩, ⟨A1, c1, rfl, l1, g1⟩⟩ := h
  exact ⟨A0, c0, A1, c1, rfl, l0, g0, l1, g1⟩
theorem k132_openM {w : World} {base : Nat} {ok : Nat → Prop} {x : S132} {cs : List Value} (h : k132.M w base ok x cs) : ∃ v0 v1, cs = [v0, v1] ∧ (Kd.int .i64).R 3 w base ok v0 x.f0 ∧ (Kd.int .i64).R 3 w base ok v1 x.f1 := by
  obtain ⟨_, _, rfl, ⟨v0, rfl, g0⟩, ⟨v1, rfl, g1⟩⟩ := h
  exact ⟨v0, v1, rfl, g0, g1⟩
theorem k132_mk (w : World) (x : S132) {A0 : Option Addr} {c0 : Nat} (l0 : x.f0.length ≤ c0) (g0 : (Kd.int .i64).C w A0 x.f0.length x.f0) {A1 : Option Addr} {c1 : Nat} (l1 : x.f1.length ≤ c1) (g1 : (Kd.int .i64).C w A1 x.f1.length x.f1) : k132.K w x [.slice A0 x.f0.length c0, .slice A1 x.f1.length c1] := ⟨[.slice A0 x.f0.length c0], [.slice A1 x.f1.length c1], rfl, ⟨A0, c0, rfl, l0, g0⟩, ⟨A1, c1, rfl, l1, g1⟩⟩
theorem k132_mkM (w : World) (base : Nat) (ok : Nat → Prop) (x : S132) {v0 : Value} (g0 : (Kd.int .i64).R 3 w base ok v0 x.f0) {v1 : Value} (g1 : (Kd.int .i64).R 3 w base ok v1 x.f1) : k132.M w base ok x [v0, v1] := ⟨[v0], [v1], rfl, ⟨v0, rfl, g0⟩, ⟨v1, rfl, g1⟩⟩
theorem k132_openF {W : World} {ok : Nat → Prop} {x : S132} {cs : List Value} (h : Kd.FK k132 W ok x cs) : ∃ A0 c0 A1 c1, cs = [.slice A0 x.f0.length c0, .slice A1 x.f1.length c1] ∧ x.f0.length ≤ c0 ∧ Kd.F (Kd.int .i64) W ok A0 x.f0.length x.f0 ∧ x.f1.length ≤ c1 ∧ Kd.F (Kd.int .i64) W ok A1 x.f1.length x.f1 := by
  obtain ⟨A0, c0, A1, c1, rfl, l0, _, l1, _⟩ := k132_open (Kd.FK_now h)
  exact ⟨A0, c0, A1, c1, rfl, l0, (fun W' hW => by obtain ⟨A0_, c0_, A1_, c1_, he, l0_, g0_, l1_, g1_⟩ := k132_open (h W' hW); injection (Option.some.inj (show some (Value.slice A0 x.f0.length c0) = some (Value.slice A0_ x.f0.length c0_) from congrArg (fun l => l[0]?) he)) with ha_ _ _; rw [ha_]; exact g0_), l1, (fun W' hW => by obtain ⟨A0_, c0_, A1_, c1_, he, l0_, g0_, l1_, g1_⟩ := k132_open (h W' hW); injection (Option.some.inj (show some (Value.slice A1 x.f1.length c1) = some (Value.slice A1_ x.f1.length c1_) from congrArg (fun l => l[1]?) he)) with ha_ _ _; rw [ha_]; exact g1_)⟩
theorem k132_mkF (W : World) (ok : Nat → Prop) (x : S132) {A0 : Option Addr} {c0 : Nat} (l0 : x.f0.length ≤ c0) (g0 : Kd.F (Kd.int .i64) W ok A0 x.f0.length x.f0) {A1 : Option Addr} {c1 : Nat} (l1 : x.f1.length ≤ c1) (g1 : Kd.F (Kd.int .i64) W ok A1 x.f1.length x.f1) : Kd.FK k132 W ok x [.slice A0 x.f0.length c0, .slice A1 x.f1.length c1] := fun W2 hW => k132_mk W2 x l0 (g0 W2 hW) l1 (g1 W2 hW)
def rd_T132 (xs : List S132) (i : Int) : S132 := xs.getD i.toNat z132
theorem at_T132 {w : World} {A : Option Addr} {n : Nat} {xs : List S132} (h : Kd.C k132 w A n xs) (i : Int) (h0 : 0 ≤ i) (h1 : i < n) : ∃ ad A0 c0 A1 c1, A = some ad ∧ w.cell? (ad.add (i.toNat * 2)) = some (.slice A0 (rd_T132 xs i).f0.length c0) ∧ w.cell? ⟨(ad.add (i.toNat * 2)).block, (ad.add (i.toNat * 2)).off + 1, none⟩ = some (.slice A1 (rd_T132 xs i).f1.length c1) ∧ (rd_T132 xs i).f0.length ≤ c0 ∧ (Kd.int .i64).C w A0 (rd_T132 xs i).f0.length (rd_T132 xs i).f0 ∧ (rd_T132 xs i).f1.length ≤ c1 ∧ (Kd.int .i64).C w A1 (rd_T132 xs i).f1.length (rd_T132 xs i).f1 := by
  obtain ⟨ad, c, e, _, hK, hc0⟩ := Kd.C_get h z132 i h0 h1
  have hc : ∀ j u, c[j]? = some u → w.cell? (ad.add (i.toNat * 2 + j)) = some u := hc0
  obtain ⟨A0, c0, A1, c1, rfl, l0, g0, l1, g1⟩ := k132_open hK
  exact ⟨ad, A0, c0, A1, c1, e, hc 0 _ rfl, by rw [← add_field _ _ 1 (by omega)]; exact hc 1 _ rfl, l0, g0, l1, g1⟩

end Go.Proofs.Ytfcofpgehlmbbaa.P

-- Printed by wip/tools/pp.py of this claim's session (over the kit's print.py); Lean checks it.
namespace Go.Proofs.Ytfcofpgehlmbbaa.P
open Go.RowKit Go.Proofs.YtfcofpgehlmbbaaW.PrintWords Go.Proofs.YtfcofpgehlmbbaaW.PrintLast Go.Proofs.YtfcofpgehlmbbaaW.PrintMore
attribute [local go_sem] max2_int min2_int max_two min_two max_three min_three max_four min_four   -- for this text's walks alone
set_option linter.unusedVariables false
set_option linter.unusedSimpArgs false

-- SOLO
-- IMPORTS Derived.Maps.OwnSet Derived.Maps.OwnOps Derived.Maps.Views
/-! ### AUX mapI -/
/-- An element of a map as it is. -/
def heldR (v : Value) : Option (DataW Value × List MemPlace) := some (.held v, [])
/-- A map's keys are whole numbers of 64 bits, each once. -/
def KeysI (D : DataW Value) : Prop := ∃ es, D = .map es ∧ es.Pairwise (fun p q => p.1 ≠ q.1) ∧ ∀ p ∈ es, ∃ x : Int, p.1 = .int .i64 x
/-- Block b is a map from whole numbers: what f tells. -/
def MapI (P : Program) (k : TypeId) (w : World) (b : Nat) (f : Int → Option Value) : Prop :=
  ∃ D, w.ownsMap P k heldR b (Maps.size D) D ∧ KeysI D ∧ ∀ x : Int, Maps.has D (.int .i64 x) = (f x).isSome ∧ ∀ z, D.atKey (.int .i64 x) (.held z) = .held ((f x).getD z)
section
variable {P : Program} {k : TypeId} {w : World} {b : Nat} {f : Int → Option Value}
theorem ownsMap_tight {R : Value → Option (DataW Value × List MemPlace)} {n : Nat} {D : DataW Value} (h : w.ownsMap P k R b n D) : w.ownsMap P k R b (Maps.size D) D := by
  obtain ⟨es, clock, hb, F, hs, rfl⟩ := h
  exact ⟨es, clock, hb, F, by simp [Maps.size, Go.length_sorted], rfl⟩
theorem KeysI.tidy {D : DataW Value} (h : KeysI D) : Maps.Tidy D := by
  obtain ⟨es, e, hp, _⟩ := h
  exact ⟨es, e, hp⟩
theorem mem_insert_lit {x y : Lit × DataW Value} : ∀ {l : List (Lit × DataW Value)}, y ∈ DataW.insert x l → y = x ∨ y ∈ l
  | [], h => by simp [DataW.insert] at h; exact .inl h
  | z :: r, h => by
    unfold DataW.insert at h
    split at h
    · rcases List.mem_cons.1 h with h | h
      · exact .inl h
      · exact .inr h
    · rcases List.mem_cons.1 h with h | h
      · exact .inr (by simp [h])
      · rcases mem_insert_lit h with h | h
        · exact .inl h
        · exact .inr (by simp [h])
theorem KeysI.put {D : DataW Value} (h : KeysI D) (x : Int) (d : DataW Value) : KeysI (D.put (.int .i64 x) d) := by
  obtain ⟨es', e', hp'⟩ := h.tidy.put (k := .int .i64 x) trivial d
  refine ⟨es', e', hp', fun p hp => ?_⟩
  obtain ⟨es, rfl, _, hk⟩ := h
  unfold DataW.put at e'
  injection e' with e'
  rw [← e'] at hp
  rcases mem_insert_lit hp with rfl | hp
  · exact ⟨x, rfl⟩
  · exact hk p (List.mem_filter.1 hp).1
theorem KeysI.del {D : DataW Value} (h : KeysI D) (x : Int) : KeysI (D.del (.int .i64 x)) := by
  obtain ⟨es', e', hp'⟩ := h.tidy.del (.int .i64 x)
  refine ⟨es', e', hp', fun p hp => ?_⟩
  obtain ⟨es, rfl, _, hk⟩ := h
  unfold DataW.del at e'
  injection e' with e'
  rw [← e'] at hp
  exact hk p (List.mem_filter.1 hp).1
theorem nodup_le : ∀ {K L : List Int}, K.Nodup → (∀ x ∈ K, x ∈ L) → K.length ≤ L.length
  | [], _, _, _ => by simp
  | x :: K, L, hn, h => by
    obtain ⟨h1, h2⟩ := List.nodup_cons.1 hn
    have hx := h x (by simp)
    have := nodup_le (K := K) (L := L.erase x) h2 (fun y hy => (List.mem_erase_of_ne (by rintro rfl; exact h1 hy)).2 (h y (by simp [hy])))
    rw [List.length_erase_of_mem hx] at this
    have := List.length_pos_of_mem hx
    rw [List.length_cons]; omega
theorem size_le_cover {D : DataW Value} (hD : KeysI D) (hf : ∀ x : Int, Maps.has D (.int .i64 x) = (f x).isSome) (L : List Int) (hL : ∀ x, (f x).isSome = true → x ∈ L) : Maps.size D ≤ L.length := by
  obtain ⟨es, rfl, hp, hk⟩ := hD
  let g : Lit × DataW Value → Int := fun p => match p.1 with | .int _ x => x | _ => 0
  have hg : ∀ p ∈ es, p.1 = .int .i64 (g p) := fun p hp => by
    obtain ⟨x, e⟩ := hk p hp
    show p.1 = .int .i64 (match p.1 with | .int _ x => x | _ => 0)
    rw [e]
  have hn : (es.map g).Nodup := by
    unfold List.Nodup
    rw [List.pairwise_map]
    refine hp.imp_of_mem fun {p q} hp hq hne e => hne ?_
    rw [hg p hp, hg q hq, e]
  have := nodup_le hn (L := L) (fun x hx => by
    obtain ⟨p, hpm, rfl⟩ := List.mem_map.1 hx
    refine hL _ ?_
    rw [← hf]
    rw [Maps.has_eq, List.any_eq_true]
    exact ⟨p, hpm, by rw [hg p hpm]; simp [Lit.sameKey]⟩)
  simpa [Maps.size] using this
theorem MapI.made (w : World) (P : Program) (k : TypeId) : MapI P k (w.alloc (.map #[] 0)) w.heap.size (fun _ => none) :=
  ⟨.map [], World.ownsMap_made w P k heldR, ⟨[], rfl, List.Pairwise.nil, fun p hp => by cases hp⟩, fun x => ⟨rfl, fun z => rfl⟩⟩
theorem MapI.lt (h : MapI P k w b f) : b < w.heap.size := by
  obtain ⟨D, h, _⟩ := h
  exact h.lt
theorem MapI.block {w' : World} (h : MapI P k w b f) (hb : w'.heap[b]? = w.heap[b]?) : MapI P k w' b f := by
  obtain ⟨D, ⟨es, clock, h1, F, h2⟩, r⟩ := h
  exact ⟨D, ⟨es, clock, hb.trans h1, F, h2⟩, r⟩
theorem MapI.congr {g : Int → Option Value} (h : MapI P k w b f) (e : ∀ x, f x = g x) : MapI P k w b g := by
  rw [← funext e]; exact h
theorem MapI.look {t e : TypeId} (h : MapI P k w b f) (hk : P.underlying k = some (.int .i64)) (ht : P.underlying t = some (.map k e)) {z : Value} (hz : (zeroValue e).run P w = .ok z w) {x : Int} (hx : (Lit.int .i64 x).wf = true) :
    (Instr.lookup t (.map (some b)) (.int .i64 x) false).run P w = .ok ((f x).getD z) w := by
  obtain ⟨D, h, _, hf⟩ := h
  obtain ⟨v, ps, hrun, hv⟩ := h.lookup (Maps.int_keyed hk) ht hz (show heldR z = some (.held z, []) from rfl) (Maps.keyOf_int_mk hk hx)
  rw [(hf x).2 z] at hv
  simp only [heldR, Option.some.injEq, Prod.mk.injEq, DataW.held.injEq] at hv
  rw [hrun, hv.1]
theorem MapI.look_ok {t e : TypeId} (h : MapI P k w b f) (hk : P.underlying k = some (.int .i64)) (ht : P.underlying t = some (.map k e)) {z : Value} (hz : (zeroValue e).run P w = .ok z w) {x : Int} (hx : (Lit.int .i64 x).wf = true) :
    (Instr.lookup t (.map (some b)) (.int .i64 x) true).run P w = .ok (.tuple #[(f x).getD z, .bool (f x).isSome]) w := by
  obtain ⟨D, h, _, hf⟩ := h
  obtain ⟨v, ps, hrun, hv⟩ := h.look_ok (Maps.int_keyed hk) ht hz (show heldR z = some (.held z, []) from rfl) (Maps.keyOf_int_mk hk hx)
  rw [(hf x).2 z] at hv
  simp only [heldR, Option.some.injEq, Prod.mk.injEq, DataW.held.injEq] at hv
  rw [hrun, hv.1, (hf x).1]
/-- One key's value turned. -/
def setI (f : Int → Option Value) (x : Int) (v : Option Value) : Int → Option Value := fun y => if y = x then v else f y
theorem MapI.store {t e : TypeId} (h : MapI P k w b f) (hk : P.underlying k = some (.int .i64)) (ht : P.underlying t = some (.map k e)) {x : Int} (hx : (Lit.int .i64 x).wf = true) (v : Value) (L : List Int) (hL : ∀ x, (f x).isSome = true → x ∈ L) (hn : L.length < 4611686018427387904) :
    ∃ w', (Instr.mapUpdate t (.map (some b)) (.int .i64 x) v).run P w = .ok () w' ∧ MapI P k w' b (setI f x (some v)) ∧ w.grownBy w' (some b) := by
  obtain ⟨D, h, hD, hf⟩ := h
  have hsz := size_le_cover hD (fun x => (hf x).1) L hL
  obtain ⟨w', hrun, hown, hg⟩ := h.update (Maps.int_keyed hk) ht (by unfold maxLen; omega) (Maps.keyOf_int_mk hk hx) (show heldR v = some (.held v, []) from rfl)
  refine ⟨w', hrun, ⟨_, ownsMap_tight hown, hD.put x _, fun y => ?_⟩, hg⟩
  unfold setI
  by_cases e : y = x
  · subst e
    rw [if_pos rfl]
    exact ⟨Maps.has_put_same hD.tidy.isMap (show WideAt.IsKeyLit (.int .i64 y) from trivial) _, fun z => Maps.atKey_put_same hD.tidy.isMap (show WideAt.IsKeyLit (.int .i64 y) from trivial) _ _⟩
  · rw [if_neg e]
    have hne : (Lit.int .i64 y) ≠ .int .i64 x := fun h => e (by injection h)
    rw [Maps.has_put_other hne]
    exact ⟨(hf y).1, fun z => by rw [Maps.atKey_put_other hne]; exact (hf y).2 z⟩
theorem MapI.drop {t e : TypeId} (h : MapI P k w b f) (hk : P.underlying k = some (.int .i64)) (ht : P.underlying t = some (.map k e)) {x : Int} (hx : (Lit.int .i64 x).wf = true) (ty : TypeId) :
    ∃ w', (Builtin.delete_ #[t, k] ty #[.map (some b), .int .i64 x]).run P w = .ok (.tuple #[]) w' ∧ MapI P k w' b (setI f x none) ∧ w.grownBy w' (some b) := by
  obtain ⟨D, h, hD, hf⟩ := h
  obtain ⟨w', hrun, hown, ht'⟩ := h.drop (Maps.int_keyed hk) ht (Maps.keyOf_int_mk hk hx) ty
  refine ⟨w', hrun, ⟨_, ownsMap_tight hown, hD.del x, fun y => ?_⟩, ht'.grown⟩
  unfold setI
  by_cases e : y = x
  · subst e
    rw [if_pos rfl]
    exact ⟨Maps.has_del_same, fun z => Maps.atKey_del_same _⟩
  · rw [if_neg e]
    have hne : (Lit.int .i64 y) ≠ .int .i64 x := fun h => e (by injection h)
    rw [Maps.has_del_other hne]
    exact ⟨(hf y).1, fun z => by rw [Maps.atKey_del_other hne]; exact (hf y).2 z⟩
end
section
variable {P : Program} {w : World} {ops : Array Oper} {rest : List Oper} {o : Oper} {a : Act} {Q : Exit → Act → World → Prop}
/-- m[x] = v, at the operation. -/
theorem wpList_store_I (hg : o.guard = none) (m x v : Operand) (t : TypeId) (hop : o.op = Op.mapUpdate t m x v) (k e : TypeId) (hk : P.underlying k = some (.int .i64)) (ht : P.underlying t = some (.map k e)) (b : Nat) (f : Int → Option Value)
    (hm : a.eval m = .map (some b)) (h : MapI P k w b f) (y : Int) (val : Value) (hx : a.eval x = .int .i64 y) (hv : a.eval v = val) (hy : (Lit.int .i64 y).wf = true) (L : List Int) (hL : ∀ x, (f x).isSome = true → x ∈ L) (hn : L.length < 4611686018427387904)
    (hK : ∀ w', MapI P k w' b (setI f y (some val)) → w.grownBy w' (some b) → wpList P ops Q rest (a.put o.dst undef) w') : wpList P ops Q (o :: rest) a w := by
  refine wpList_plain hg fun K' hK' => ?_
  obtain ⟨w', hrun, r1, r2⟩ := h.store hk ht hy val L hL hn
  unfold Oper.wp
  simp [execOp, hop, hm, hx, hv, hrun, Result.andThen]
  exact hK' _ _ (hK w' r1 r2)
/-- delete(m, x), at the operation. -/
theorem wpList_drop_I (hg : o.guard = none) (m x : Operand) (t k : TypeId) (hop : o.op = Op.call { callee := Callee.builtin Builtin.delete, args := #[m, x], argTypes := #[t, k] }) (e : TypeId) (hk : P.underlying k = some (.int .i64)) (ht : P.underlying t = some (.map k e)) (b : Nat) (f : Int → Option Value)
    (hm : a.eval m = .map (some b)) (h : MapI P k w b f) (y : Int) (hx : a.eval x = .int .i64 y) (hy : (Lit.int .i64 y).wf = true)
    (hK : ∀ w', MapI P k w' b (setI f y none) → w.grownBy w' (some b) → wpList P ops Q rest (a.put o.dst (.tuple #[])) w') : wpList P ops Q (o :: rest) a w := by
  refine wpList_plain hg fun K' hK' => ?_
  obtain ⟨w', hrun, r1, r2⟩ := h.drop hk ht hy o.type
  unfold Oper.wp
  simp [execOp, hop, resolve, invoke, builtin, hm, hx, hrun, Result.andThen]
  exact hK' _ _ (hK w' r1 r2)
end


end Go.Proofs.Ytfcofpgehlmbbaa.P

-- Printed by wip/tools/pp.py of this claim's session (over the kit's print.py); Lean checks it.
namespace Go.Proofs.Ytfcofpgehlmbbaa.P
open Go.RowKit Go.Proofs.YtfcofpgehlmbbaaW.PrintWords Go.Proofs.YtfcofpgehlmbbaaW.PrintLast Go.Proofs.YtfcofpgehlmbbaaW.PrintMore
attribute [local go_sem] max2_int min2_int max_two min_two max_three min_three max_four min_four   -- for this text's walks alone
set_option linter.unusedVariables false
set_option linter.unusedSimpArgs false

-- SOLO
-- IMPORTS 
/-! ### AUX slicesHd -/
/-- A row's head: where it lies, how long it is, its capacity. -/
abbrev Hd := Option Addr × Nat × Nat
def hdv (x : Hd) : Value := .slice x.1 x.2.1 x.2.2
/-- Rows' heads, one cell each. -/
abbrev kH : Kd Hd := Kd.scalar hdv (fun _ => rfl)
/-- The rows that lie behind heads, in a world. -/
def HdOf (W : World) (h : Hd) (x : List Int) : Prop := h.2.1 = x.length ∧ x.length ≤ h.2.2 ∧ Kd.C (Kd.int .i64) W h.1 x.length x
def HdsOf (W : World) (hs : List Hd) (xs : List (List Int)) : Prop := hs.length = xs.length ∧ ∀ (i : Nat) (h : Hd) (x : List Int), hs[i]? = some h → xs[i]? = some x → HdOf W h x
theorem HdsOf.below {W W' : World} {hs : List Hd} {xs : List (List Int)} (h : HdsOf W hs xs) (hb : Below W.heap.size W W') : HdsOf W' hs xs :=
  ⟨h.1, fun i a b ha hb' => ⟨(h.2 i a b ha hb').1, (h.2 i a b ha hb').2.1, Kd.C_below (h.2 i a b ha hb').2.2 hb⟩⟩
theorem HdsOf.join {W : World} {A : Option Addr} {n : Nat} {hs : List Hd} {xs : List (List Int)} (h : HdsOf W hs xs) (hC : Kd.C kH W A n hs) : Kd.C (Kd.slice 3 (Kd.int .i64)) W A n xs := by
  obtain ⟨h1, h2, h3⟩ := hC
  refine ⟨by rw [← h.1, h1], h2, fun h0 => ?_⟩
  obtain ⟨ad, e, hc⟩ := h3 h0
  refine ⟨ad, e, fun j p hp => ?_⟩
  have hj : j < hs.length := by rw [h.1]; exact (List.getElem?_eq_some_iff.1 hp).1
  obtain ⟨c, hcl, hK, hcc⟩ := hc j hs[j] (List.getElem?_eq_getElem hj)
  obtain ⟨a1, a2, a3⟩ := h.2 j _ _ (List.getElem?_eq_getElem hj) hp
  refine ⟨c, hcl, ⟨_, _, ?_, a2, a3⟩, hcc⟩
  rw [hK, hdv, a1]
theorem HdsOf.part {W : World} {A : Option Addr} {n : Nat} {xs : List (List Int)} (hC : Kd.C (Kd.slice 3 (Kd.int .i64)) W A n xs) : ∃ hs, HdsOf W hs xs ∧ Kd.C kH W A n hs := by
  obtain ⟨h1, h2, h3⟩ := hC
  rcases Nat.eq_zero_or_pos n with h0 | h0
  · have hx : xs = [] := List.eq_nil_of_length_eq_zero (by omega)
    subst hx
    exact ⟨[], ⟨rfl, fun i h x hi => by simp at hi⟩, ⟨by simpa using h1, h2, fun h => absurd h (by omega)⟩⟩
  · obtain ⟨ad, e, hc⟩ := h3 h0
    have hex : ∀ j : Nat, ∃ h : Hd, ∀ p, xs[j]? = some p → HdOf W h p ∧ W.cell? (ad.add (j * 1 + 0)) = some (hdv h) := by
      intro j
      by_cases hj : j < xs.length
      · obtain ⟨c, hcl, ⟨A1, c1, hcs, hle, hr⟩, hcc⟩ := hc j xs[j] (List.getElem?_eq_getElem hj)
        refine ⟨(A1, xs[j].length, c1), fun p hp => ?_⟩
        rw [List.getElem?_eq_getElem hj] at hp
        cases hp
        exact ⟨⟨rfl, hle, hr⟩, hcc 0 _ (by rw [hcs]; rfl)⟩
      · exact ⟨(none, 0, 0), fun p hp => absurd (List.getElem?_eq_some_iff.1 hp).1 hj⟩
    obtain ⟨F, hF⟩ := Classical.axiomOfChoice hex
    refine ⟨(List.range xs.length).map F, ⟨by simp, ?_⟩, by simpa using h1, h2, fun _ => ⟨ad, e, ?_⟩⟩
    · intro i h x hi hx
      have hl : i < xs.length := (List.getElem?_eq_some_iff.1 hx).1
      simp [List.getElem?_map, List.getElem?_range hl] at hi
      rw [← hi]
      exact (hF i x hx).1
    · intro j p hp
      have hl : j < xs.length := by have := (List.getElem?_eq_some_iff.1 hp).1; simpa using this
      simp [List.getElem?_map, List.getElem?_range hl] at hp
      refine ⟨[hdv p], rfl, rfl, fun i u hu => ?_⟩
      cases i with
      | zero =>
        simp only [List.getElem?_cons_zero, Option.some.injEq] at hu
        rw [← hu, ← hp]
        exact (hF j xs[j] (List.getElem?_eq_getElem hl)).2
      | succ i => simp at hu
theorem HdsOf.add {W : World} {hs : List Hd} {xs : List (List Int)} {h : Hd} {x : List Int} (H : HdsOf W hs xs) (h1 : HdOf W h x) : HdsOf W (hs ++ [h]) (xs ++ [x]) := by
  refine ⟨by simp [H.1], fun i a b ha hb => ?_⟩
  rw [List.getElem?_append] at ha hb
  rw [H.1] at ha
  split at ha
  · rename_i hlt
    rw [if_pos hlt] at hb
    exact H.2 i a b ha hb
  · rename_i hlt
    rw [if_neg hlt] at hb
    have h0 : i - xs.length = 0 := by have := (List.getElem?_eq_some_iff.1 hb).1; simp at this; omega
    rw [h0] at ha hb
    simp at ha hb
    rw [← ha, ← hb]
    exact h1
theorem HdsOf.cut {W : World} {hs : List Hd} {xs : List (List Int)} (H : HdsOf W hs xs) (i : Nat) : HdsOf W (hs.take i ++ hs.drop (i + 1)) (xs.take i ++ xs.drop (i + 1)) := by
  rw [← List.eraseIdx_eq_take_drop_succ, ← List.eraseIdx_eq_take_drop_succ]
  refine ⟨by rw [List.length_eraseIdx, List.length_eraseIdx, H.1], fun j a b ha hb => ?_⟩
  rw [List.getElem?_eraseIdx] at ha hb
  split at ha
  · rename_i hlt; rw [if_pos hlt] at hb; exact H.2 j a b ha hb
  · rename_i hlt; rw [if_neg hlt] at hb; exact H.2 (j + 1) a b ha hb


end Go.Proofs.Ytfcofpgehlmbbaa.P

-- Printed by wip/tools/pp.py of this claim's session (over the kit's print.py); Lean checks it.
namespace Go.Proofs.Ytfcofpgehlmbbaa.P
open Go.RowKit Go.Proofs.YtfcofpgehlmbbaaW.PrintWords Go.Proofs.YtfcofpgehlmbbaaW.PrintLast Go.Proofs.YtfcofpgehlmbbaaW.PrintMore
attribute [local go_sem] max2_int min2_int max_two min_two max_three min_three max_four min_four   -- for this text's walks alone
set_option linter.unusedVariables false
set_option linter.unusedSimpArgs false

-- SOLO
-- IMPORTS Derived.Test.YtfcofpgehlmbbaaPxAmapI Derived.Test.YtfcofpgehlmbbaaPxAslicesHd
/-! ### AUX unitEng -/
/-- What an engine is: the number of variables, the clauses, the places where a literal stands (and how many there are), the trail, what is known of its literals, the levels' beginnings, the broken clause. -/
structure Eng where
  n : Int
  cls : List (List Int)
  wt : Int → List Int
  ws : Nat
  tr : List Int
  ms : Int → Option (Int × Int)
  st : List Int
  br : Int
def Eng.Lits (E : Eng) : Prop := ∀ c ∈ E.cls, ∀ x ∈ c, (Lit.int .i64 x).wf = true
/-- Where an engine's parts lie. -/
structure EngP where
  vC : Value
  hs : List Hd
  vT : Value
  vS : Value
  bw : Nat
  bm : Nat
  fw : Int → Option Value
def EngCells (E : Eng) (p : EngP) : Array Value := #[.int .i64 E.n, p.vC, .map (some p.bw), p.vT, .map (some p.bm), p.vS, .int .i64 E.br]
def mkV (f : Int → Option (Int × Int)) (x : Int) : Option Value := (f x).map fun q => .agg #[.int .i64 q.1, .int .i64 q.2]
abbrev Tag := Nat → Int × Int
/-- An engine in memory, at block B; T tells which blocks are whose. -/
structure EngIn (w : World) (B : Nat) (T : Tag) (E : Eng) (p : EngP) : Prop where
  fresh : ∀ k, w.heap.size ≤ k → T k = (0, 0)
  blk : w.heap[B]? = some (.cells (EngCells E p) 93 (0, 0))
  tB : T B = (1, 0)
  cls : Kd.R kH 33 w 0 (fun k => T k = (2, 0)) p.vC p.hs
  len : p.hs.length = E.cls.length
  rows : ∀ (i : Nat) (h : Hd) (c : List Int), p.hs[i]? = some h → E.cls[i]? = some c → Kd.R (Kd.int .i64) 3 w 0 (fun k => T k = (3, 0)) (hdv h) c
  tr : Kd.R (Kd.int .i64) 3 w 0 (fun k => T k = (4, 0)) p.vT E.tr
  st : Kd.R (Kd.int .i64) 3 w 0 (fun k => T k = (5, 0)) p.vS E.st
  ms : MapI Try.prog 3 w p.bm (mkV E.ms)
  tM : T p.bm = (6, 0)
  mst : ∀ x, (E.ms x).isSome = true → x ∈ E.tr
  wt : MapI Try.prog 3 w p.bw p.fw
  tW : T p.bw = (7, 0)
  grp : ∀ x, Kd.R (Kd.int .i64) 3 w 0 (fun k => T k = (8, x)) ((p.fw x).getD (.slice none 0 0)) (E.wt x)
  cov : ∃ L : List Int, (∀ x, (p.fw x).isSome = true → x ∈ L) ∧ L.length ≤ E.ws
  wsz : ∀ x, (E.wt x).length ≤ E.ws
/-- What a call that goes on with the engine leaves as it was. -/
structure Moved (T T' : Tag) (W W' : World) : Prop where
  os : W'.os = W.os
  tape : W'.tape = W.tape
  output : W'.output = W.output
  size : W.heap.size ≤ W'.heap.size
  old : ∀ k, k < W.heap.size → T' k = T k ∧ (T k = (0, 0) → W'.heap[k]? = W.heap[k]?)
/-- What a call leaves that goes on with the engine. -/
def EngPost (B : Nat) (T : Tag) (p : EngP) (E' : Eng) (W W' : World) : Prop := ∃ T' p', EngIn W' B T' E' p' ∧ Moved T T' W W' ∧ p'.fw = p.fw
theorem Moved.refl (T : Tag) (W : World) : Moved T T W W := ⟨rfl, rfl, rfl, Nat.le_refl _, fun _ _ => ⟨rfl, fun _ => rfl⟩⟩
theorem Moved.trans {T T' T'' : Tag} {W W' W'' : World} (h : Moved T T' W W') (k : Moved T' T'' W' W'') : Moved T T'' W W'' :=
  ⟨k.os.trans h.os, k.tape.trans h.tape, k.output.trans h.output, Nat.le_trans h.size k.size, fun i hi => by
    obtain ⟨a1, a2⟩ := h.old i hi
    obtain ⟨b1, b2⟩ := k.old i (Nat.lt_of_lt_of_le hi h.size)
    exact ⟨b1.trans a1, fun e => (b2 (a1.trans e)).trans (a2 e)⟩⟩
theorem Moved.of_below {T : Tag} {W W' : World} (h : Below W.heap.size W W') : Moved T T W W' := ⟨h.os, h.tape, h.output, h.size, fun k hk => ⟨rfl, fun _ => h.block k hk⟩⟩
/-- Behind a call that began with no engine. -/
theorem Moved.below {T T' : Tag} {W W' : World} (h : Moved T T' W W') (n : Nat) (hn : n ≤ W.heap.size) (h0 : ∀ k, k < n → T k = (0, 0)) : Below n W W' := ⟨h.os, h.tape, h.output, h.size, fun k hk => (h.old k (by omega)).2 (h0 k hk)⟩
section
variable {α : Type} {d : Kd α} {e : Nat} {w w1 : World} {T T' : Tag} {t : Int × Int} {v : Value} {xs : List α}
theorem R_tag (h : d.R e w 0 (fun k => T k = t) v xs) (hm : ∀ k, k < w.heap.size → T k = t → w1.heap[k]? = w.heap[k]?) (hT : ∀ k, k < w.heap.size → T' k = T k) : d.R e w1 0 (fun k => T' k = t) v xs := by
  have h1 := Kd.R_bound h
  have h2 := Kd.R_step h1 (w1 := w1) (fun k hk hlt => hm k hlt hk.1)
  exact Kd.R_mono h2 (fun k hk => (hT k hk.2.2.1).trans hk.1)
end
/-- A row that has grown: its block is tagged. -/
def retag (T : Tag) (W : World) (v : Value) (t : Int × Int) : Tag := fun k => if W.heap.size ≤ k ∧ v.ownBlock = some k then t else T k
theorem retag_old {T : Tag} {W : World} {v : Value} {t : Int × Int} (k : Nat) (hk : k < W.heap.size) : retag T W v t k = T k := if_neg (fun h => by omega)
theorem R_retag {α : Type} {enc : α → Value} {h1 : ∀ x, (enc x).oneCell' = true} {e : Nat} {W w1 : World} {T : Tag} {t : Int × Int} {v : Value} {xs : List α} {ok : Nat → Prop} (h : (Kd.scalar enc h1).R e w1 0 ok v xs) (hok : ∀ k, ok k → k < W.heap.size → T k = t) : (Kd.scalar enc h1).R e w1 0 (fun k => retag T W v t k = t) v xs := by
  refine Kd.R_of_own (Kd.own_of_R h) (fun k hk => ?_)
  unfold retag
  by_cases hlt : k < W.heap.size
  · rw [if_neg (fun h => by omega)]
    exact hok k (h.1 k hk) hlt
  · rw [if_pos ⟨by omega, hk⟩]
section
variable {w w1 : World} {B : Nat} {T : Tag} {E : Eng} {p : EngP}
theorem EngIn.below (h : EngIn w B T E p) (hb : Below w.heap.size w w1) : EngIn w1 B T E p where
  fresh k hk := h.fresh k (Nat.le_trans hb.size hk)
  blk := blk_below h.blk hb
  tB := h.tB
  cls := Kd.R_below h.cls hb
  len := h.len
  rows i a c ha hc := Kd.R_below (h.rows i a c ha hc) hb
  tr := Kd.R_below h.tr hb
  st := Kd.R_below h.st hb
  ms := h.ms.block (hb.block _ h.ms.lt)
  tM := h.tM
  mst := h.mst
  wt := h.wt.block (hb.block _ h.wt.lt)
  tW := h.tW
  grp x := Kd.R_below (h.grp x) hb
  cov := h.cov
  wsz := h.wsz
theorem EngIn.lt (h : EngIn w B T E p) : B < w.heap.size := blk_lt h.blk
theorem EngIn.cells (h : EngIn w B T E p) : w.cell? ⟨B, 0, none⟩ = some (.int .i64 E.n) ∧ w.cell? ⟨B, 1, none⟩ = some p.vC ∧ w.cell? ⟨B, 2, none⟩ = some (.map (some p.bw)) ∧ w.cell? ⟨B, 3, none⟩ = some p.vT ∧ w.cell? ⟨B, 4, none⟩ = some (.map (some p.bm)) ∧ w.cell? ⟨B, 5, none⟩ = some p.vS ∧ w.cell? ⟨B, 6, none⟩ = some (.int .i64 E.br) ∧ ∀ i, w.frozen? ⟨B, i, none⟩ = false :=
  ⟨blk_cell h.blk 0, blk_cell h.blk 1, blk_cell h.blk 2, blk_cell h.blk 3, blk_cell h.blk 4, blk_cell h.blk 5, blk_cell h.blk 6, fun i => blk_frozen h.blk i⟩
theorem tag_ne {a b : Int} (h : a ≠ b) (x y : Int) : ((a, x) : Int × Int) ≠ (b, y) := fun e => h (congrArg Prod.fst e)
/-- All whose tag is none of those that were written stays. -/
theorem EngIn.kept {T' : Tag} (S : Int × Int → Prop) (h : EngIn w B T E p) (hm : ∀ k, k < w.heap.size → ¬ S (T k) → w1.heap[k]? = w.heap[k]?) (hT : ∀ k, k < w.heap.size → T' k = T k) :
    (¬ S (1, 0) → w1.heap[B]? = some (.cells (EngCells E p) 93 (0, 0))) ∧ T' B = (1, 0) ∧ (¬ S (2, 0) → Kd.R kH 33 w1 0 (fun k => T' k = (2, 0)) p.vC p.hs) ∧
    (¬ S (3, 0) → ∀ (i : Nat) (a : Hd) (c : List Int), p.hs[i]? = some a → E.cls[i]? = some c → Kd.R (Kd.int .i64) 3 w1 0 (fun k => T' k = (3, 0)) (hdv a) c) ∧
    (¬ S (4, 0) → Kd.R (Kd.int .i64) 3 w1 0 (fun k => T' k = (4, 0)) p.vT E.tr) ∧ (¬ S (5, 0) → Kd.R (Kd.int .i64) 3 w1 0 (fun k => T' k = (5, 0)) p.vS E.st) ∧
    (¬ S (6, 0) → MapI Try.prog 3 w1 p.bm (mkV E.ms)) ∧ T' p.bm = (6, 0) ∧ (¬ S (7, 0) → MapI Try.prog 3 w1 p.bw p.fw) ∧ T' p.bw = (7, 0) ∧
    (∀ x, ¬ S (8, x) → Kd.R (Kd.int .i64) 3 w1 0 (fun k => T' k = (8, x)) ((p.fw x).getD (.slice none 0 0)) (E.wt x)) := by
  have hr : ∀ {α : Type} {d : Kd α} {e : Nat} {u : Int × Int} {v : Value} {xs : List α}, d.R e w 0 (fun k => T k = u) v xs → ¬ S u → d.R e w1 0 (fun k => T' k = u) v xs := fun hr hne =>
    R_tag hr (fun k hk e => hm k hk (fun e' => hne (e ▸ e'))) hT
  exact ⟨fun hne => (hm B h.lt (by rw [h.tB]; exact hne)).trans h.blk, (hT B h.lt).trans h.tB, hr h.cls, fun hne i a c ha hc => hr (h.rows i a c ha hc) hne, hr h.tr, hr h.st,
    fun hne => h.ms.block (hm _ h.ms.lt (by rw [h.tM]; exact hne)), (hT _ h.ms.lt).trans h.tM, fun hne => h.wt.block (hm _ h.wt.lt (by rw [h.tW]; exact hne)), (hT _ h.wt.lt).trans h.tW, fun x hne => hr (h.grp x) hne⟩
/-- A row of the engine's has grown (or nothing has), and its new value is stored into the engine. -/
theorem grown_store {W W1 : World} {T : Tag} {v : Value} {t : Int × Int} (hg : W.grownBy W1 v.ownBlock) (hv : ∀ k, v.ownBlock = some k → T k = t) (hB : B < W.heap.size) (tB : T B = (1, 0)) (i : Nat) (u : Value) :
    (∀ k, k < W.heap.size → ¬ (T k = (1, 0) ∨ T k = t) → (W1.setCell ⟨B, i, none⟩ u).heap[k]? = W.heap[k]?) ∧ (W1.setCell ⟨B, i, none⟩ u).heap.size = W1.heap.size ∧ W.heap.size ≤ W1.heap.size := by
  refine ⟨fun k hk hn => ?_, by simp, hg.size⟩
  rw [Below.heap_setCell W1 _ u k (fun e => hn (.inl (by rw [e]; exact tB)))]
  exact hg.block k hk (fun e => hn (.inr (hv k e.symm)))
theorem blk_after {W W1 : World} {v : Value} {t : Int × Int} {cs cs' : Array Value} {tt : Nat} (hb : W.heap[B]? = some (.cells cs tt (0, 0))) (hg : W.grownBy W1 v.ownBlock) (hv : ∀ k, v.ownBlock = some k → T k = t) (tB : T B = (1, 0)) (hne : t ≠ (1, 0)) (i : Nat) (u : Value) (e : cs.setIfInBounds i u = cs') :
    (W1.setCell ⟨B, i, none⟩ u).heap[B]? = some (.cells cs' tt (0, 0)) := blk_put (blk_grown hb hg (fun e' => hne ((hv B e'.symm).symm.trans tB))) i u e
theorem R_far_set {α : Type} {d : Kd α} {e : Nat} {W : World} {T : Tag} {t : Int × Int} {v : Value} {xs : List α} (h : d.R e W 0 (fun k => T k = t) v xs) (tB : T B = (1, 0)) (hne : t ≠ (1, 0)) (i : Nat) (u : Value) : d.R e (W.setCell ⟨B, i, none⟩ u) 0 (fun k => T k = t) v xs :=
  Kd.R_far h (fun k hk e => hne (by rw [← hk, e]; exact tB)) u
theorem moved_grown {W W2 : World} {T' : Tag} {t : Int × Int} (hfr : W2.os = W.os ∧ W2.tape = W.tape ∧ W2.output = W.output) (hs : W.heap.size ≤ W2.heap.size) (hm : ∀ k, k < W.heap.size → ¬ (T k = (1, 0) ∨ T k = t) → W2.heap[k]? = W.heap[k]?) (hT : ∀ k, k < W.heap.size → T' k = T k) (ht : t ≠ (0, 0)) : Moved T T' W W2 :=
  ⟨hfr.1, hfr.2.1, hfr.2.2, hs, fun k hk => ⟨hT k hk, fun e => hm k hk (fun h => h.elim (fun h => by rw [e] at h; exact absurd h (by decide)) (fun h => ht (h.symm.trans e)))⟩⟩
/-- The trail is a longer row. -/
theorem EngIn.turn_tr (h : EngIn w B T E p) {v1 : Value} {ys : List Int} (hR : Kd.R (Kd.int .i64) 3 w1 0 (fun k => T k = (4, 0) ∨ w.heap.size ≤ k) v1 ys) (hg : w.grownBy w1 p.vT.ownBlock) (hk : ∀ x, (E.ms x).isSome = true → x ∈ ys) :
    EngIn (w1.setCell ⟨B, 3, none⟩ v1) B (retag T w v1 (4, 0)) { E with tr := ys } { p with vT := v1 } ∧ Moved T (retag T w v1 (4, 0)) w (w1.setCell ⟨B, 3, none⟩ v1) := by
  have hv := h.tr.1
  obtain ⟨hm, hs1, hs2⟩ := grown_store hg hv h.lt h.tB 3 v1
  have hT : ∀ k, k < w.heap.size → retag T w v1 (4, 0) k = T k := retag_old
  obtain ⟨k1, k2, k3, k4, k5, k6, k7, k8, k9, k10, k11⟩ := h.kept (S := fun t => t = (1, 0) ∨ t = (4, 0)) hm hT
  have no : ∀ {a b : Int}, a ≠ 1 → a ≠ 4 → ¬ (((a, b) : Int × Int) = (1, 0) ∨ ((a, b) : Int × Int) = (4, 0)) := fun h1 h4 e => e.elim (fun e => h1 (congrArg Prod.fst e)) (fun e => h4 (congrArg Prod.fst e))
  have hR1 := R_retag (W := w) hR (fun k hk hlt => hk.resolve_right (by omega))
  refine ⟨{ fresh := fun k hk => ?_, blk := blk_after h.blk hg hv h.tB (by decide) 3 v1 rfl, tB := k2, cls := k3 (no (by decide) (by decide)), len := h.len, rows := k4 (no (by decide) (by decide)), tr := R_far_set hR1 k2 (by decide) 3 v1, st := k6 (no (by decide) (by decide)), ms := k7 (no (by decide) (by decide)), tM := k8, mst := hk, wt := k9 (no (by decide) (by decide)), tW := k10, grp := fun x => k11 x (no (by decide) (by decide)), cov := h.cov, wsz := h.wsz }, moved_grown ⟨hg.os, hg.tape, hg.output⟩ (by rw [hs1]; exact hs2) hm hT (by decide)⟩
  rw [hs1] at hk
  unfold retag
  rw [if_neg, h.fresh k (by omega)]
  rintro ⟨_, e⟩
  obtain ⟨inner, ho⟩ := Kd.R_own hR
  have := own_lt ho k e
  omega
/-- The levels' beginnings are a longer row. -/
theorem EngIn.turn_st (h : EngIn w B T E p) {v1 : Value} {ys : List Int} (hR : Kd.R (Kd.int .i64) 3 w1 0 (fun k => T k = (5, 0) ∨ w.heap.size ≤ k) v1 ys) (hg : w.grownBy w1 p.vS.ownBlock) :
    EngIn (w1.setCell ⟨B, 5, none⟩ v1) B (retag T w v1 (5, 0)) { E with st := ys } { p with vS := v1 } ∧ Moved T (retag T w v1 (5, 0)) w (w1.setCell ⟨B, 5, none⟩ v1) := by
  have hv := h.st.1
  obtain ⟨hm, hs1, hs2⟩ := grown_store hg hv h.lt h.tB 5 v1
  have hT : ∀ k, k < w.heap.size → retag T w v1 (5, 0) k = T k := retag_old
  obtain ⟨k1, k2, k3, k4, k5, k6, k7, k8, k9, k10, k11⟩ := h.kept (S := fun t => t = (1, 0) ∨ t = (5, 0)) hm hT
  have no : ∀ {a b : Int}, a ≠ 1 → a ≠ 5 → ¬ (((a, b) : Int × Int) = (1, 0) ∨ ((a, b) : Int × Int) = (5, 0)) := fun h1 h4 e => e.elim (fun e => h1 (congrArg Prod.fst e)) (fun e => h4 (congrArg Prod.fst e))
  have hR1 := R_retag (W := w) hR (fun k hk hlt => hk.resolve_right (by omega))
  refine ⟨{ fresh := fun k hk => ?_, blk := blk_after h.blk hg hv h.tB (by decide) 5 v1 rfl, tB := k2, cls := k3 (no (by decide) (by decide)), len := h.len, rows := k4 (no (by decide) (by decide)), tr := k5 (no (by decide) (by decide)), st := R_far_set hR1 k2 (by decide) 5 v1, ms := k7 (no (by decide) (by decide)), tM := k8, mst := h.mst, wt := k9 (no (by decide) (by decide)), tW := k10, grp := fun x => k11 x (no (by decide) (by decide)), cov := h.cov, wsz := h.wsz }, moved_grown ⟨hg.os, hg.tape, hg.output⟩ (by rw [hs1]; exact hs2) hm hT (by decide)⟩
  rw [hs1] at hk
  unfold retag
  rw [if_neg, h.fresh k (by omega)]
  rintro ⟨_, e⟩
  obtain ⟨inner, ho⟩ := Kd.R_own hR
  have := own_lt ho k e
  omega
/-- A clause more. -/
theorem EngIn.turn_cls (h : EngIn w B T E p) {v1 : Value} {a : Hd} {c : List Int} (hc : Kd.R (Kd.int .i64) 3 w 0 (fun k => T k = (3, 0)) (hdv a) c) (hR : Kd.R kH 33 w1 0 (fun k => T k = (2, 0) ∨ w.heap.size ≤ k) v1 (p.hs ++ [a])) (hg : w.grownBy w1 p.vC.ownBlock) :
    EngIn (w1.setCell ⟨B, 1, none⟩ v1) B (retag T w v1 (2, 0)) { E with cls := E.cls ++ [c] } { p with vC := v1, hs := p.hs ++ [a] } ∧ Moved T (retag T w v1 (2, 0)) w (w1.setCell ⟨B, 1, none⟩ v1) := by
  have hv := h.cls.1
  obtain ⟨hm, hs1, hs2⟩ := grown_store hg hv h.lt h.tB 1 v1
  have hT : ∀ k, k < w.heap.size → retag T w v1 (2, 0) k = T k := retag_old
  obtain ⟨k1, k2, k3, k4, k5, k6, k7, k8, k9, k10, k11⟩ := h.kept (S := fun t => t = (1, 0) ∨ t = (2, 0)) hm hT
  have no : ∀ {a b : Int}, a ≠ 1 → a ≠ 2 → ¬ (((a, b) : Int × Int) = (1, 0) ∨ ((a, b) : Int × Int) = (2, 0)) := fun h1 h4 e => e.elim (fun e => h1 (congrArg Prod.fst e)) (fun e => h4 (congrArg Prod.fst e))
  have hR1 := R_retag (W := w) hR (fun k hk hlt => hk.resolve_right (by omega))
  have hc1 : Kd.R (Kd.int .i64) 3 (w1.setCell ⟨B, 1, none⟩ v1) 0 (fun k => retag T w v1 (2, 0) k = (3, 0)) (hdv a) c := R_tag hc (fun k hk e => hm k hk (by rw [e]; exact no (by decide) (by decide))) hT
  refine ⟨{ fresh := fun k hk => ?_, blk := blk_after h.blk hg hv h.tB (by decide) 1 v1 rfl, tB := k2, cls := R_far_set hR1 k2 (by decide) 1 v1, len := by simp [h.len], rows := fun i b d hb hd => ?_, tr := k5 (no (by decide) (by decide)), st := k6 (no (by decide) (by decide)), ms := k7 (no (by decide) (by decide)), tM := k8, mst := h.mst, wt := k9 (no (by decide) (by decide)), tW := k10, grp := fun x => k11 x (no (by decide) (by decide)), cov := h.cov, wsz := h.wsz }, moved_grown ⟨hg.os, hg.tape, hg.output⟩ (by rw [hs1]; exact hs2) hm hT (by decide)⟩
  · rw [hs1] at hk
    unfold retag
    rw [if_neg, h.fresh k (by omega)]
    rintro ⟨_, e⟩
    obtain ⟨inner, ho⟩ := Kd.R_own hR
    have := own_lt ho k e
    omega
  · have hb : (p.hs ++ [a])[i]? = some b := hb
    have hd : (E.cls ++ [c])[i]? = some d := hd
    rw [List.getElem?_append] at hb hd
    rw [h.len] at hb
    split at hb
    · rename_i hlt
      rw [if_pos hlt] at hd
      exact k4 (no (by decide) (by decide)) i b d hb hd
    · rename_i hlt
      rw [if_neg hlt] at hd
      have h0 : i - E.cls.length = 0 := by have := (List.getElem?_eq_some_iff.1 hd).1; simp at this; omega
      rw [h0] at hb hd
      simp at hb hd
      rw [← hb, ← hd]
      exact hc1
/-- The number of the broken clause. -/
theorem EngIn.turn_br (h : EngIn w B T E p) (n : Int) : EngIn (w.setCell ⟨B, 6, none⟩ (.int .i64 n)) B T { E with br := n } p ∧ Moved T T w (w.setCell ⟨B, 6, none⟩ (.int .i64 n)) := by
  have hg : w.grownBy w (Value.slice none 0 0).ownBlock := ⟨rfl, rfl, rfl, Nat.le_refl _, fun _ _ _ => rfl⟩
  obtain ⟨hm, hs1, hs2⟩ := grown_store (t := (1, 0)) hg (fun k hk => by simp [Value.ownBlock] at hk) h.lt h.tB 6 (.int .i64 n)
  obtain ⟨k1, k2, k3, k4, k5, k6, k7, k8, k9, k10, k11⟩ := h.kept (S := fun t => t = (1, 0) ∨ t = (1, 0)) hm (fun _ _ => rfl)
  have no : ∀ {a b : Int}, a ≠ 1 → ¬ (((a, b) : Int × Int) = (1, 0) ∨ ((a, b) : Int × Int) = (1, 0)) := fun h1 e => e.elim (fun e => h1 (congrArg Prod.fst e)) (fun e => h1 (congrArg Prod.fst e))
  exact ⟨{ fresh := fun k hk => h.fresh k (by rw [hs1] at hk; exact hk), blk := blk_put h.blk 6 _ rfl, tB := k2, cls := k3 (no (by decide)), len := h.len, rows := k4 (no (by decide)), tr := k5 (no (by decide)), st := k6 (no (by decide)), ms := k7 (no (by decide)), tM := k8, mst := h.mst, wt := k9 (no (by decide)), tW := k10, grp := fun x => k11 x (no (by decide)), cov := h.cov, wsz := h.wsz }, moved_grown (t := (1, 0)) ⟨rfl, rfl, rfl⟩ (by rw [hs1]; exact Nat.le_refl _) hm (fun _ _ => rfl) (by decide)⟩
/-- The marks are others. -/
theorem EngIn.turn_ms (h : EngIn w B T E p) {g : Int → Option (Int × Int)} (hM : MapI Try.prog 3 w1 p.bm (mkV g)) (hg : w.grownBy w1 (some p.bm)) (hk : ∀ x, (g x).isSome = true → x ∈ E.tr) :
    EngIn w1 B T { E with ms := g } p ∧ Moved T T w w1 := by
  have hm : ∀ k, k < w.heap.size → ¬ (T k = (6, 0)) → w1.heap[k]? = w.heap[k]? := fun k hk hn => hg.block k hk (fun e => hn (by injection e with e; rw [e]; exact h.tM))
  obtain ⟨k1, k2, k3, k4, k5, k6, k7, k8, k9, k10, k11⟩ := h.kept (S := fun t => t = (6, 0)) hm (fun _ _ => rfl)
  have no : ∀ {a b : Int}, a ≠ 6 → ¬ (((a, b) : Int × Int) = (6, 0)) := fun h1 e => h1 (congrArg Prod.fst e)
  exact ⟨{ fresh := fun k hk => h.fresh k (Nat.le_trans hg.size hk), blk := k1 (no (by decide)), tB := k2, cls := k3 (no (by decide)), len := h.len, rows := k4 (no (by decide)), tr := k5 (no (by decide)), st := k6 (no (by decide)), ms := hM, tM := k8, mst := hk, wt := k9 (no (by decide)), tW := k10, grp := fun x => k11 x (no (by decide)), cov := h.cov, wsz := h.wsz }, ⟨hg.os, hg.tape, hg.output, hg.size, fun k hk => ⟨rfl, fun e => hm k hk (by rw [e]; decide)⟩⟩⟩
/-- A literal stands in a clause more. -/
theorem EngIn.turn_wt (h : EngIn w B T E p) {w2 : World} {x : Int} {v1 : Value} {ys : List Int} (hR : Kd.R (Kd.int .i64) 3 w1 0 (fun k => T k = (8, x) ∨ w.heap.size ≤ k) v1 ys) (hg : w.grownBy w1 ((p.fw x).getD (.slice none 0 0)).ownBlock)
    (hM : MapI Try.prog 3 w2 p.bw (setI p.fw x (some v1))) (hg2 : w1.grownBy w2 (some p.bw)) (hys : ys.length ≤ E.ws + 1) :
    EngIn w2 B (retag T w v1 (8, x)) { E with wt := fun y => if y = x then ys else E.wt y, ws := E.ws + 1 } { p with fw := setI p.fw x (some v1) } ∧ Moved T (retag T w v1 (8, x)) w w2 ∧
      (∀ {v : Value} {zs : List Int}, Kd.R (Kd.int .i64) 3 w 0 (fun k => T k = (3, 0)) v zs → Kd.R (Kd.int .i64) 3 w2 0 (fun k => retag T w v1 (8, x) k = (3, 0)) v zs) := by
  have hv := (h.grp x).1
  have hs2 := Nat.le_trans hg.size hg2.size
  have hm : ∀ k, k < w.heap.size → ¬ (T k = (7, 0) ∨ T k = (8, x)) → w2.heap[k]? = w.heap[k]? := fun k hk hn =>
    (hg2.block k (Nat.lt_of_lt_of_le hk hg.size) (fun e => hn (.inl (by injection e with e; rw [e]; exact h.tW)))).trans (hg.block k hk (fun e => hn (.inr (hv k e.symm))))
  have hT : ∀ k, k < w.heap.size → retag T w v1 (8, x) k = T k := retag_old
  obtain ⟨k1, k2, k3, k4, k5, k6, k7, k8, k9, k10, k11⟩ := h.kept (S := fun t => t = (7, 0) ∨ t = (8, x)) hm hT
  have no : ∀ {a b : Int}, a ≠ 7 → a ≠ 8 → ¬ (((a, b) : Int × Int) = (7, 0) ∨ ((a, b) : Int × Int) = (8, x)) := fun h1 h4 e => e.elim (fun e => h1 (congrArg Prod.fst e)) (fun e => h4 (congrArg Prod.fst e))
  have hR1 := R_retag (W := w) hR (fun k hk hlt => hk.resolve_right (by omega))
  have hlw : p.bw < w.heap.size := h.wt.lt
  have hR2 : Kd.R (Kd.int .i64) 3 w2 0 (fun k => retag T w v1 (8, x) k = (8, x)) v1 ys := Kd.R_grown hR1 hg2 (fun k hk e => by
    injection e with e
    rw [e, retag_old _ hlw, h.tW] at hk
    exact absurd (congrArg Prod.fst hk) (show (7 : Int) ≠ 8 by decide))
  refine ⟨{ fresh := fun k hk => ?_, blk := k1 (no (by decide) (by decide)), tB := k2, cls := k3 (no (by decide) (by decide)), len := h.len, rows := k4 (no (by decide) (by decide)), tr := k5 (no (by decide) (by decide)), st := k6 (no (by decide) (by decide)), ms := k7 (no (by decide) (by decide)), tM := k8, mst := h.mst, wt := hM, tW := k10, grp := fun y => ?_, cov := ?_, wsz := fun y => ?_ }, ⟨hg2.os.trans hg.os, hg2.tape.trans hg.tape, hg2.output.trans hg.output, hs2, fun k hk => ⟨hT k hk, fun e => hm k hk (by rw [e]; exact no (by decide) (by decide))⟩⟩, fun hz => R_tag hz (fun k hk e => hm k hk (by rw [e]; exact no (by decide) (by decide))) hT⟩
  · unfold retag
    rw [if_neg, h.fresh k (by omega)]
    rintro ⟨_, e⟩
    obtain ⟨inner, ho⟩ := Kd.R_own hR2
    have := own_lt ho k e
    omega
  · show Kd.R (Kd.int .i64) 3 w2 0 (fun k => retag T w v1 (8, x) k = (8, y)) ((setI p.fw x (some v1) y).getD (.slice none 0 0)) (if y = x then ys else E.wt y)
    unfold setI
    by_cases e : y = x
    · subst e
      rw [if_pos rfl, if_pos rfl]
      exact hR2
    · rw [if_neg e, if_neg e]
      exact k11 y (fun h => h.elim (fun h => absurd (congrArg Prod.fst h) (show (8 : Int) ≠ 7 by decide)) (fun h => e (congrArg Prod.snd h)))
  · obtain ⟨L, hL, hl⟩ := h.cov
    refine ⟨x :: L, fun y hy => ?_, by simp; omega⟩
    have hy : (setI p.fw x (some v1) y).isSome = true := hy
    unfold setI at hy
    by_cases e : y = x
    · rw [e]; simp
    · rw [if_neg e] at hy
      exact List.mem_cons_of_mem _ (hL y hy)
  · show (if y = x then ys else E.wt y).length ≤ E.ws + 1
    split
    · exact hys
    · have := h.wsz y; omega
/-- A new row of numbers becomes a clause's. -/
theorem EngIn.newrow (h : EngIn w B T E p) (hb : Below w.heap.size w w1) {ok : Nat → Prop} {v : Value} {c : List Int} (hR : Kd.R (Kd.int .i64) 3 w1 w.heap.size ok v c) :
    EngIn w1 B (retag T w v (3, 0)) E p ∧ Moved T (retag T w v (3, 0)) w w1 ∧ Kd.R (Kd.int .i64) 3 w1 0 (fun k => retag T w v (3, 0) k = (3, 0)) v c := by
  have hT : ∀ k, k < w.heap.size → retag T w v (3, 0) k = T k := retag_old
  obtain ⟨k1, k2, k3, k4, k5, k6, k7, k8, k9, k10, k11⟩ := h.kept (S := fun _ => False) (fun k hk _ => hb.block k hk) hT
  have no : ¬ False := id
  obtain ⟨inner, ho⟩ := Kd.R_own hR
  refine ⟨{ fresh := fun k hk => ?_, blk := k1 no, tB := k2, cls := k3 no, len := h.len, rows := k4 no, tr := k5 no, st := k6 no, ms := k7 no, tM := k8, mst := h.mst, wt := k9 no, tW := k10, grp := fun x => k11 x no, cov := h.cov, wsz := h.wsz }, ⟨hb.os, hb.tape, hb.output, hb.size, fun k hk => ⟨hT k hk, fun _ => hb.block k hk⟩⟩, ?_⟩
  · unfold retag
    rw [if_neg, h.fresh k (Nat.le_trans hb.size hk)]
    rintro ⟨_, e⟩
    have := own_lt ho k e
    omega
  · refine Kd.R_of_own (Kd.own_of_R (Kd.R_lower hR (Nat.zero_le _))) (fun k hk => ?_)
    unfold retag
    exact if_pos ⟨own_base ho k hk, hk⟩
end
section
variable {P : Program} {ops : Array Oper} {o : Oper} {a : Act} {Q : Exit → Act → World → Prop} {K : Act → World → Prop} {W : World}
/-- m[x] = v, in a region that draws. -/
theorem step_store_I (hw : Region.wanted o (yielded ops a.tmps) = true) (m x v : Operand) (t : TypeId) (hop : o.op = Op.mapUpdate t m x v) (k e : TypeId) (hk : P.underlying k = some (.int .i64)) (ht : P.underlying t = some (.map k e)) (b : Nat) (f : Int → Option Value)
    (hm : a.eval m = .map (some b)) (h : MapI P k W b f) (y : Int) (val : Value) (hx : a.eval x = .int .i64 y) (hv : a.eval v = val) (hy : (Lit.int .i64 y).wf = true) (L : List Int) (hL : ∀ x, (f x).isSome = true → x ∈ L) (hn : L.length < 4611686018427387904)
    (hK : ∀ w', MapI P k w' b (setI f y (some val)) → W.grownBy w' (some b) → K (a.put o.dst undef) w') :
    if Region.wanted o (yielded ops a.tmps) = true then Oper.wp P o a W K Q else K (a.put o.dst undef) W := by
  rw [if_pos hw]
  obtain ⟨w', hrun, r1, r2⟩ := h.store hk ht hy val L hL hn
  unfold Oper.wp
  simp [execOp, hop, hm, hx, hv, hrun, Result.andThen]
  exact hK w' r1 r2
end
theorem EngIn.after {w w1 : World} {B : Nat} {T : Tag} {E : Eng} {p : EngP} (h : EngIn w B T E p) {v : Value} {t : Int × Int} (hv : ∀ k, v.ownBlock = some k → T k = t) (hne : t ≠ (1, 0)) (hg : w.grownBy w1 v.ownBlock) (i : Nat) : w1.cell? ⟨B, i, none⟩ = (EngCells E p)[i]? ∧ w1.frozen? ⟨B, i, none⟩ = false := by
  have hb := blk_grown h.blk hg (fun e => hne ((hv B e.symm).symm.trans h.tB))
  exact ⟨blk_cell hb i, blk_frozen hb i⟩
theorem zero_rowL (W : World) : (zeroValue 33).run Try.prog W = .ok (.slice none 0 0) W := by kernel_rfl


end Go.Proofs.Ytfcofpgehlmbbaa.P

-- Printed by wip/tools/pp.py of this claim's session (over the kit's print.py); Lean checks it.
namespace Go.Proofs.Ytfcofpgehlmbbaa.P
open Go.RowKit Go.Proofs.YtfcofpgehlmbbaaW.PrintWords Go.Proofs.YtfcofpgehlmbbaaW.PrintLast Go.Proofs.YtfcofpgehlmbbaaW.PrintMore
attribute [local go_sem] max2_int min2_int max_two min_two max_three min_three max_four min_four   -- for this text's walks alone
set_option linter.unusedVariables false
set_option linter.unusedSimpArgs false

-- SOLO
-- IMPORTS Derived.Test.YtfcofpgehlmbbaaPxAunitEng
/-! ### unit_Engine_Value: function 28 -/
/-- A literal's value. -/
def Eng.val (E : Eng) (l : Int) : Int := if (E.ms l).isSome = true then 1 else if (E.ms (wrap64 (-l))).isSome = true then -1 else 0
theorem wf_wrap (l : Int) : (Lit.int .i64 (wrap64 (-l))).wf = true := by
  have a : IntKind.i64.min = -9223372036854775808 := by decide
  have b : IntKind.i64.max = 9223372036854775807 := by decide
  unfold Lit.wf wrap64
  rw [Bool.and_eq_true, decide_eq_true_eq, decide_eq_true_eq]
  omega
theorem zero_mark (W : World) : (zeroValue 111).run Try.prog W = .ok (.agg #[.int .i64 0, .int .i64 0]) W := by kernel_rfl
/-- What a look-up of a mark tells. -/
theorem EngIn.look {w : World} {B : Nat} {T : Tag} {E : Eng} {p : EngP} (h : EngIn w B T E p) {W : World} (hb : Below w.heap.size w W) {x : Int} (hx : (Lit.int .i64 x).wf = true) :
    (Instr.lookup 91 (.map (some p.bm)) (.int .i64 x) true).run Try.prog W = .ok (.tuple #[.agg #[.int .i64 ((E.ms x).getD (0, 0)).1, .int .i64 ((E.ms x).getD (0, 0)).2], .bool (E.ms x).isSome]) W := by
  have := (h.below hb).ms.look_ok Try.underlying3 Try.underlying91 (zero_mark W) hx
  rw [this]
  unfold mkV
  cases E.ms x <;> rfl
set_option maxRecDepth 100000 in
set_option maxHeartbeats 1000000 in
theorem eng_Value.calls (E : Eng) (B : Nat) (T : Tag) (p : EngP) (l : Int) (w : World) (h : EngIn w B T E p) (hl : (Lit.int .i64 l).wf = true) :
    Calls Try.prog 28 #[.pointer (some ⟨B, 0, none⟩), .int .i64 l] w fun e w' => e = .returned (.int .i64 (E.val l)) ∧ Below w.heap.size w w' := by
  have q1 := h.look (Below.refl _ w) hl
  have c4 := h.cells.2.2.2.2.1
  obtain ⟨m1, hm1⟩ : ∃ m, (E.ms l).getD (0, 0) = m := ⟨_, rfl⟩
  obtain ⟨m2, hm2⟩ : ∃ m, (E.ms (wrap64 (-l))).getD (0, 0) = m := ⟨_, rfl⟩
  have hb2 : Below w.heap.size w (w.alloc (.cells #[.int .i64 m1.1, .int .i64 m1.2] 111)) := below_alloc (Below.refl _ _) _
  have q2 := h.look hb2 (wf_wrap l)
  have c42 := (h.below hb2).cells.2.2.2.2.1
  have hu := Try.underlying111
  have P6 : IntKind.i64.wrap (-l) = wrap64 (-l) := Go.IntWalk.i64_left _
  rw [hm1] at q1
  rw [hm2] at q2
  unfold Eng.val
  obtain ⟨b1, e1⟩ : ∃ b, (E.ms l).isSome = b := ⟨_, rfl⟩
  obtain ⟨b2, e2⟩ : ∃ b, (E.ms (wrap64 (-l))).isSome = b := ⟨_, rfl⟩
  rw [e1] at q1 ⊢
  rw [e2] at q2 ⊢
  clear hm1 hm2 e1 e2
  cases b1 with
  | true =>
    go_enter Try.func28, Try.ntmps28
    go_wp2
    go_ret
    exact ⟨rfl, by first | exact hb2 | (repeat (first | exact Below.refl _ _ | apply below_alloc))⟩
  | false =>
    cases b2 with
    | true =>
      go_enter Try.func28, Try.ntmps28
      go_wp2
      go_ret
      exact ⟨rfl, by repeat (first | exact Below.refl _ _ | apply below_alloc)⟩
    | false =>
      go_enter Try.func28, Try.ntmps28
      go_wp2
      go_ret
      exact ⟨rfl, by repeat (first | exact Below.refl _ _ | apply below_alloc)⟩
set_option maxRecDepth 100000 in
theorem eng_Value.nobody (l : Int) (w : World) : Calls Try.prog 28 #[.pointer none, .int .i64 l] w fun e w' => e = .returned (.int .i64 0) ∧ w' = w := by
  go_enter Try.func28, Try.ntmps28
  go_wp2
  go_ret
  exact ⟨rfl, rfl⟩


end Go.Proofs.Ytfcofpgehlmbbaa.P

-- Printed by wip/tools/pp.py of this claim's session (over the kit's print.py); Lean checks it.
namespace Go.Proofs.Ytfcofpgehlmbbaa.P
open Go.RowKit Go.Proofs.YtfcofpgehlmbbaaW.PrintWords Go.Proofs.YtfcofpgehlmbbaaW.PrintLast Go.Proofs.YtfcofpgehlmbbaaW.PrintMore
attribute [local go_sem] max2_int min2_int max_two min_two max_three min_three max_four min_four   -- for this text's walks alone
set_option linter.unusedVariables false
set_option linter.unusedSimpArgs false

-- SOLO
-- IMPORTS Derived.Test.YtfcofpgehlmbbaaPxAunitEng Derived.WalkSpells
/-! ### unit_Engine_Broken: function 20 -/
set_option maxRecDepth 100000 in
theorem eng_Broken.calls (E : Eng) (B : Nat) (T : Tag) (p : EngP) (w : World) (h : EngIn w B T E p) :
    Calls Try.prog 20 #[.pointer (some ⟨B, 0, none⟩)] w fun e w' => e = .returned (.int .i64 E.br) ∧ w' = w := by
  have c2 := h.cells.2.2.1
  have c6 := h.cells.2.2.2.2.2.2.1
  have q2 := run_eql_map_nil (P := Try.prog) w 90 3 33 (some p.bw) Try.underlying90
  simp only [Option.isNone_some] at q2
  clear h
  go_enter Try.func20, Try.ntmps20
  go_wp2
  go_ret
  exact ⟨rfl, rfl⟩
set_option maxRecDepth 100000 in
theorem eng_Broken.nobody (w : World) : Calls Try.prog 20 #[.pointer none] w fun e w' => e = .returned (.int .i64 (-1)) ∧ w' = w := by
  go_enter Try.func20, Try.ntmps20
  go_wp2
  go_ret
  exact ⟨rfl, rfl⟩


end Go.Proofs.Ytfcofpgehlmbbaa.P

-- Printed by wip/tools/pp.py of this claim's session (over the kit's print.py); Lean checks it.
namespace Go.Proofs.Ytfcofpgehlmbbaa.P
open Go.RowKit Go.Proofs.YtfcofpgehlmbbaaW.PrintWords Go.Proofs.YtfcofpgehlmbbaaW.PrintLast Go.Proofs.YtfcofpgehlmbbaaW.PrintMore
attribute [local go_sem] max2_int min2_int max_two min_two max_three min_three max_four min_four   -- for this text's walks alone
set_option linter.unusedVariables false
set_option linter.unusedSimpArgs false

-- SOLO
-- IMPORTS Derived.RangeFuncCalls Derived.Lib.SliceRun
/-! ### AUX sliceClone -/
set_option maxRecDepth 100000 in
set_option maxHeartbeats 2000000 in
theorem slices_Clone_int.calls (A : Option Addr) (c : Nat) (xs : List Int) (w : World) (hr : Kd.C (Kd.int .i64) w A xs.length xs) (hc : xs.length ≤ c) (hl : xs.length < 17592186044416) :
    Calls Try.prog 64 #[.slice A xs.length c] w fun e w' => ∃ v', e = .returned v' ∧ Kd.R (Kd.int .i64) 3 w' w.heap.size (fun _ => True) v' xs ∧ Below w.heap.size w w' := by
  have HR := Aside0.mk hr
  have HL := Aside0.mk hl
  cases A with
  | none =>
    have h0 : xs = [] := by
      rcases Nat.eq_zero_or_pos xs.length with h | h
      · exact List.eq_nil_of_length_eq_zero h
      · obtain ⟨ad, e, _⟩ := hr.2.2 h
        cases e
    subst h0
    clear hr hl
    have hq := fun W : World => Lib.run_eql_slice_nil (P := Try.prog) W 33 3 none 0 c 0 0 Try.underlying33
    simp only [Option.isNone_none] at hq
    go_enter Try.func64, Try.ntmps64
    go_wp2
    go_ret
    exact ⟨_, rfl, Kd.R_nil _ _ _ _ _, Below.refl _ _⟩
  | some a =>
    clear hr hl
    have hE : Kd.R (Kd.int .i64) 3 (w.alloc (.cells #[] 3)) w.heap.size (fun _ => True) (.slice (some ⟨w.heap.size, 0, none⟩) 0 0) ([] : List Int) := Kd.R_of_own (by have := own_lit w w.heap.size 3 .i64 [] (Nat.le_refl _) (by simp); simpa [encs, nums] using this) (fun _ _ => trivial)
    have HE := Aside0.mk hE
    clear hE
    have hq := fun W : World => Lib.run_eql_slice_nil (P := Try.prog) W 33 3 (some a) xs.length c 0 0 Try.underlying33
    simp only [Option.isNone_some] at hq
    go_enter Try.func64, Try.ntmps64
    go_wp2_with (at_builtin; refine Kd.R_append_row (Value.int .i64) 0 (w0 := w) (W := w.alloc (.cells #[] 3)) w.heap.size rfl (.tmp 5) (.tmp 6) 33 3 (.int .i64 0) 8 rfl Try.underlying33 (by kernel_rfl) rfl (by decide) _ [] xs _ _ _ (fun _ => True) rfl rfl (fun _ _ => trivial) HE.out (Kd.C_below HR.out (below_alloc (Below.refl _ _) _)) (below_alloc (Below.refl _ _) _) (by simp) (by have := HL.out; simp; omega) ?_; intro v1 w1 r1 hb1 hg1 hat1)

    go_ret
    exact ⟨_, rfl, (by have h := r1; rw [List.nil_append] at h; exact h), hb1⟩


end Go.Proofs.Ytfcofpgehlmbbaa.P

-- Printed by wip/tools/pp.py of this claim's session (over the kit's print.py); Lean checks it.
namespace Go.Proofs.Ytfcofpgehlmbbaa.P
open Go.RowKit Go.Proofs.YtfcofpgehlmbbaaW.PrintWords Go.Proofs.YtfcofpgehlmbbaaW.PrintLast Go.Proofs.YtfcofpgehlmbbaaW.PrintMore
attribute [local go_sem] max2_int min2_int max_two min_two max_three min_three max_four min_four   -- for this text's walks alone
set_option linter.unusedVariables false
set_option linter.unusedSimpArgs false

-- SOLO
-- IMPORTS Derived.Test.YtfcofpgehlmbbaaPxAunitEng
/-! ### unit_Engine_Trail: function 21 -/
set_option maxRecDepth 100000 in
theorem eng_Trail.calls (E : Eng) (B : Nat) (T : Tag) (p : EngP) (w : World) (h : EngIn w B T E p) (hl : E.tr.length < 4398046511104) :
    Calls Try.prog 21 #[.pointer (some ⟨B, 0, none⟩)] w fun e w' => ∃ v, e = .returned v ∧ Kd.R (Kd.int .i64) 3 w' w.heap.size (fun _ => True) v E.tr ∧ Below w.heap.size w w' := by
  have c3 := h.cells.2.2.2.1
  obtain ⟨A3, n3, e3⟩ := Kd.R_slice h.tr
  have hR := h.tr
  rw [e3] at c3 hR
  obtain ⟨_, h2, h3⟩ := Kd.R_reads' hR
  have HC := Aside0.mk (slices_Clone_int.calls A3 n3 E.tr w h3 h2 (by omega))
  clear h e3 hR h3
  go_enter Try.func21, Try.ntmps21
  go_wp2_with fail
  refine HC.out.mono ?_
  rintro e' w1 ⟨v1, rfl, hR1, hb1⟩
  have HR := Aside0.mk hR1
  have HB := Aside0.mk hb1
  clear hR1 hb1
  go_wp2
  go_ret
  exact ⟨_, rfl, HR.out, HB.out⟩
set_option maxRecDepth 100000 in
theorem eng_Trail.nobody (w : World) : Calls Try.prog 21 #[.pointer none] w fun e w' => e = .returned (.slice none 0 0) ∧ w' = w := by
  go_enter Try.func21, Try.ntmps21
  go_wp2
  go_ret
  exact ⟨rfl, rfl⟩


end Go.Proofs.Ytfcofpgehlmbbaa.P

-- Printed by wip/tools/pp.py of this claim's session (over the kit's print.py); Lean checks it.
namespace Go.Proofs.Ytfcofpgehlmbbaa.P
open Go.RowKit Go.Proofs.YtfcofpgehlmbbaaW.PrintWords Go.Proofs.YtfcofpgehlmbbaaW.PrintLast Go.Proofs.YtfcofpgehlmbbaaW.PrintMore
attribute [local go_sem] max2_int min2_int max_two min_two max_three min_three max_four min_four   -- for this text's walks alone
set_option linter.unusedVariables false
set_option linter.unusedSimpArgs false

/-! ### lit_is: function 119 -/
def lit_is.f (a0 : Int) : Option (Bool) := if a0 = 0 then (some false) else (some (a0 != (-9223372036854775808)))
set_option maxHeartbeats 8000000 in
set_option maxRecDepth 100000 in
theorem lit_is.calls (a0 : Int) (r : Bool) (w : World) (h : lit_is.f a0 = some r) :
    Calls Try.prog 119 #[.int .i64 a0] w fun e w' => e = .returned (.bool r) ∧ Drawn0 w w' := by
  have H : (if a0 = 0 then (some false) else (some (a0 != (-9223372036854775808)))) = some r := h
  clear h
  by_cases c2 : a0 = 0
  · rw [if_pos c2] at H
    have c2b0 : (a0 == 0) = true := beq_iff_eq.mpr c2
    have c2b1 : (a0 != 0) = false := bne_eq_false_iff_eq.mpr c2
    clear c2
    as_aux_lemma =>
      obtain rfl := Option.some.inj H
      go_enter Try.func119, Try.ntmps119
      go_wp2
      go_ret
      exact ⟨by first | rfl | (simp; done) | (simp [*]; done), by repeat (first | exact Drawn0.refl _ | apply Drawn0.step)⟩
  · rw [if_neg c2] at H
    have c2b0 : (a0 == 0) = false := beq_eq_false_iff_ne.mpr c2
    have c2b1 : (a0 != 0) = true := bne_iff_ne.mpr c2
    as_aux_lemma =>
      obtain rfl := Option.some.inj H
      go_enter Try.func119, Try.ntmps119
      go_wp2
      go_ret
      exact ⟨by first | rfl | (simp; done) | (simp [*]; done), by repeat (first | exact Drawn0.refl _ | apply Drawn0.step)⟩

end Go.Proofs.Ytfcofpgehlmbbaa.P

-- Printed by wip/tools/pp.py of this claim's session (over the kit's print.py); Lean checks it.
namespace Go.Proofs.Ytfcofpgehlmbbaa.P
open Go.RowKit Go.Proofs.YtfcofpgehlmbbaaW.PrintWords Go.Proofs.YtfcofpgehlmbbaaW.PrintLast Go.Proofs.YtfcofpgehlmbbaaW.PrintMore
attribute [local go_sem] max2_int min2_int max_two min_two max_three min_three max_four min_four   -- for this text's walks alone
set_option linter.unusedVariables false
set_option linter.unusedSimpArgs false

-- SOLO
-- IMPORTS 
/-! ### lit_variable: function 120 -/
def lit_variable.f (a0 : Int) : Option (Int) := some (mx a0 (wrap64 (-a0)))
set_option maxHeartbeats 8000000 in
set_option maxRecDepth 100000 in
theorem lit_variable.calls (a0 : Int) (r : Int) (w : World) (h : lit_variable.f a0 = some r) :
    Calls Try.prog 120 #[.int .i64 a0] w fun e w' => e = .returned (.int .i64 r) ∧ Drawn0 w w' := by
  obtain rfl := Option.some.inj h
  clear h
  go_enter Try.func120, Try.ntmps120
  go_wp2
  · have h : a0 < wrap64 (-a0) := by assumption
    rw [show mx a0 (wrap64 (-a0)) = wrap64 (-a0) from if_pos h]
    go_ret
    exact ⟨rfl, Drawn0.refl _⟩
  · have h : wrap64 (-a0) ≤ a0 := by assumption
    rw [show mx a0 (wrap64 (-a0)) = a0 from if_neg (by omega)]
    go_ret
    exact ⟨rfl, Drawn0.refl _⟩


end Go.Proofs.Ytfcofpgehlmbbaa.P

-- Printed by wip/tools/pp.py of this claim's session (over the kit's print.py); Lean checks it.
namespace Go.Proofs.Ytfcofpgehlmbbaa.P
open Go.RowKit Go.Proofs.YtfcofpgehlmbbaaW.PrintWords Go.Proofs.YtfcofpgehlmbbaaW.PrintLast Go.Proofs.YtfcofpgehlmbbaaW.PrintMore
attribute [local go_sem] max2_int min2_int max_two min_two max_three min_three max_four min_four   -- for this text's walks alone
set_option linter.unusedVariables false
set_option linter.unusedSimpArgs false

/-! ### lit_Right: function 75 -/
def lit_Right.l0 : Nat → Int → List Int → Int → Int → Option (Int)
  | 0, _, _, _, _ => none
  | k + 1, x1, x10, x11, x12 => if x12 < x11 then (if 0 ≤ x12 then (if x12 < (x10.length : Int) then ((lit_is.f (rd x10 x12)).bind fun t106 => (if t106 = true then ((lit_variable.f (rd x10 x12)).bind fun t107 => (if t107 > x1 then (some 1) else (lit_Right.l0 k x1 x10 x11 (wrap64 (x12 + 1))))) else (some 1))) else (none)) else (none)) else (some 0)
def lit_Right.f (k : Nat) (l0 : List Int) (a1 : Int) : Option (Int) := if (l0.length : Int) > 64 then (some 2) else (lit_Right.l0 k a1 l0 (l0.length : Int) 0)
theorem lit_Right.mono_l : ∀ k, (∀ y0 y1 y2 y3, LeO (lit_Right.l0 k y0 y1 y2 y3) (lit_Right.l0 (k + 1) y0 y1 y2 y3))
  | 0 => fun _ _ _ _ r h => by simp [lit_Right.l0] at h
  | k + 1 => by
    have ih0 := lit_Right.mono_l k
    · intro y0 y1 y2 y3
      unfold lit_Right.l0
      repeat' first
      | (with_reducible exact ih0 _ _ _ _)
      | (with_reducible exact LeO.refl _)
      | (with_reducible exact LeO.none _)
      | (with_reducible refine LeO.ite ?_ ?_)
      | (with_reducible refine LeO.bind ?_ (fun _ => ?_))
      | exact ih0 _ _ _ _
      | exact LeO.none _
      | refine LeO.ite ?_ ?_
      | refine LeO.bind ?_ (fun _ => ?_)
theorem lit_Right.mono : ∀ a0 a1 k, LeO (lit_Right.f k a0 a1) (lit_Right.f (k + 1) a0 a1) := by
  intro a0 a1 k
  have ih0 := lit_Right.mono_l k
  unfold lit_Right.f
  repeat' first
      | (with_reducible exact ih0 _ _ _ _)
      | (with_reducible exact LeO.refl _)
      | (with_reducible exact LeO.none _)
      | (with_reducible refine LeO.ite ?_ ?_)
      | (with_reducible refine LeO.bind ?_ (fun _ => ?_))
      | exact ih0 _ _ _ _
      | exact LeO.none _
      | refine LeO.ite ?_ ?_
      | refine LeO.bind ?_ (fun _ => ?_)
set_option maxHeartbeats 8000000 in
set_option maxRecDepth 100000 in
theorem lit_Right.calls (k : Nat) (A0 : Option Addr) (c0 : Nat) (l0 : List Int) (a1 : Int) (r : Int) (w : World) (hr0 : Kd.C (Kd.int .i64) w A0 l0.length l0) (hc0 : l0.length ≤ c0) (h : lit_Right.f k l0 a1 = some r) :
    Calls Try.prog 75 #[.slice A0 l0.length c0, .int .i64 a1] w fun e w' => e = .returned (.int .i64 r) ∧ Drawn0 w w' := by
  have HR0 := Aside0.mk hr0
  have HC0 := Aside0.mk hc0
  clear hr0 hc0
  have H : (if (l0.length : Int) > 64 then (some 2) else (lit_Right.l0 k a1 l0 (l0.length : Int) 0)) = some r := h
  clear h
  by_cases c3 : (l0.length : Int) > 64
  · rw [if_pos c3] at H
    have c3b0 : decide (64 < (l0.length : Int)) = true := decide_eq_true c3
    have c3b1 : decide (64 < l0.length) = true := decide_eq_true (by omega)
    clear c3
    as_aux_lemma =>
      obtain rfl := Option.some.inj H
      go_enter Try.func75, Try.ntmps75
      go_wp2
      go_ret
      exact ⟨by first | rfl | (simp; done) | (simp [*]; done), by repeat (first | exact Drawn0.refl _ | apply Drawn0.step)⟩
  · rw [if_neg c3] at H
    have c3b0 : decide (64 < (l0.length : Int)) = false := decide_eq_false c3
    have c3b1 : decide (64 < l0.length) = false := decide_eq_false (by omega)
    clear c3
    have H' := Aside0.mk H
    clear H
    go_enter Try.func75, Try.ntmps75
    go_wp2
    go_loopg [12] k (fun kq v12 w' => ∃ (x12_1 : Int), v12 = .int .i64 x12_1 ∧ Aside0 (lit_Right.l0 kq a1 l0 (l0.length : Int) x12_1 = some r) ∧ Aside0 (kq ≤ k) ∧ Drawn0 w w')
    case atStart => exact ⟨(0), (by first | rfl | (simp; done) | (simp [*]; done)), H', ⟨Nat.le_refl _⟩, by repeat (first | exact Drawn0.refl _ | apply Drawn0.step)⟩
    case round =>
      clear H'
      try clear p2
      try clear c3
      try clear c3b0
      try clear c3b1
      obtain ⟨x12_1, rfl, HA, HK1, ⟨m1, rfl⟩⟩ := hrel
      cases gk with
      | zero => exact absurd HA.out (by simp [lit_Right.l0])
      | succ k1 =>
        have H := HA.out
        clear HA
        simp only [lit_Right.l0] at H
        by_cases c4 : x12_1 < (l0.length : Int)
        · rw [if_pos c4] at H
          have c4b0 : decide (x12_1 < (l0.length : Int)) = true := decide_eq_true c4
          clear c4
          by_cases c5 : 0 ≤ x12_1
          · rw [if_pos c5] at H
            have c5b0 : decide (0 ≤ x12_1) = true := decide_eq_true c5
            clear c5
            by_cases c6 : x12_1 < (l0.length : Int)
            · rw [if_pos c6] at H
              have c6b0 : decide (x12_1 < (l0.length : Int)) = true := decide_eq_true c6
              clear c6
              replace H := Option.bind_eq_some_iff.mp H
              obtain ⟨t106, A70, H⟩ := H
              replace H : (if t106 = true then ((lit_variable.f (rd l0 x12_1)).bind fun t107 => (if t107 > a1 then (some 1) else (lit_Right.l0 k1 a1 l0 (l0.length : Int) (wrap64 (x12_1 + 1))))) else (some 1)) = some r := H
              have A7 := Aside0.mk A70
              clear A70
              by_cases c8 : t106 = true
              · subst c8
                have H1 : ((lit_variable.f (rd l0 x12_1)).bind fun t107 => (if t107 > a1 then (some 1) else (lit_Right.l0 k1 a1 l0 (l0.length : Int) (wrap64 (x12_1 + 1))))) = some r := by rw [if_pos rfl] at H; exact H
                clear H
                have H := H1
                clear H1
                replace H := Option.bind_eq_some_iff.mp H
                obtain ⟨t107, A90, H⟩ := H
                replace H : (if t107 > a1 then (some 1) else (lit_Right.l0 k1 a1 l0 (l0.length : Int) (wrap64 (x12_1 + 1)))) = some r := H
                have A9 := Aside0.mk A90
                clear A90
                by_cases c10 : t107 > a1
                · rw [if_pos c10] at H
                  have c10b0 : decide (a1 < t107) = true := decide_eq_true c10
                  clear c10
                  as_aux_lemma =>
                    obtain rfl := Option.some.inj H
                    have p105 : 0 ≤ (x12_1 : Int) := of_decide_eq_true (by first | (with_reducible assumption) | assumption)
                    have q105 : x12_1 < (l0.length : Int) := of_decide_eq_true (by first | (with_reducible assumption) | assumption)
                    obtain ⟨ad105, e105, hx105_0⟩ := Kd.at_int HR0.out x12_1 p105 q105
                    cases e105
                    replace p105 := eq_true p105
                    replace q105 := eq_true q105
                    go_wp2_with (first | ((with_reducible refine gate_callee (f := 119) rfl ?_); refine goesL_ (some 17) rfl rfl Try.func119 (by kernel_rfl) rfl #[.int .i64 (rd l0 x12_1)] rfl (by (try simp only [List.map_toArray, List.map_cons, List.map_nil]); first | done | rfl | (simp only [List.length_drop, List.length_take]; rfl)) ?_; (with_reducible refine (lit_is.calls (rd l0 x12_1) true _ A7.out).mono ?_); rintro e w' ⟨rfl, ⟨nd, rfl⟩⟩; refine ⟨_, rfl, ?_⟩) | (go_at_call 120; (with_reducible refine (lit_variable.calls (rd l0 x12_1) t107 _ A9.out).mono ?_); rintro e w' ⟨rfl, ⟨nd, rfl⟩⟩))
                    go_ret
                    exact ⟨by first | rfl | (simp; done) | (simp [*]; done), by repeat (first | exact Drawn0.refl _ | apply Drawn0.step)⟩
                · rw [if_neg c10] at H
                  have c10b0 : decide (a1 < t107) = false := decide_eq_false c10
                  clear c10
                  as_aux_lemma =>
                    have H' := Aside0.mk H
                    clear H
                    have p105 : 0 ≤ (x12_1 : Int) := of_decide_eq_true (by first | (with_reducible assumption) | assumption)
                    have q105 : x12_1 < (l0.length : Int) := of_decide_eq_true (by first | (with_reducible assumption) | assumption)
                    obtain ⟨ad105, e105, hx105_0⟩ := Kd.at_int HR0.out x12_1 p105 q105
                    cases e105
                    replace p105 := eq_true p105
                    replace q105 := eq_true q105
                    go_wp2_with (first | ((with_reducible refine gate_callee (f := 119) rfl ?_); refine goesL_ (some 17) rfl rfl Try.func119 (by kernel_rfl) rfl #[.int .i64 (rd l0 x12_1)] rfl (by (try simp only [List.map_toArray, List.map_cons, List.map_nil]); first | done | rfl | (simp only [List.length_drop, List.length_take]; rfl)) ?_; (with_reducible refine (lit_is.calls (rd l0 x12_1) true _ A7.out).mono ?_); rintro e w' ⟨rfl, ⟨nd, rfl⟩⟩; refine ⟨_, rfl, ?_⟩) | (go_at_call 120; (with_reducible refine (lit_variable.calls (rd l0 x12_1) t107 _ A9.out).mono ?_); rintro e w' ⟨rfl, ⟨nd, rfl⟩⟩))
                    go_roundg k1
                    case measure => have := HK1.out; omega
                    case rel => exact ⟨(wrap64 (x12_1 + 1)), (by first | rfl | (simp; done) | (simp [*]; done)), H', ⟨by have := HK1.out; omega⟩, by repeat (first | exact Drawn0.refl _ | apply Drawn0.step)⟩
              · replace c8 := Bool.eq_false_iff.mpr c8
                subst c8
                have H1 : (some 1) = some r := by rw [if_neg (show ¬ (false = true) by decide)] at H; exact H
                clear H
                have H := H1
                clear H1
                as_aux_lemma =>
                  obtain rfl := Option.some.inj H
                  have p105 : 0 ≤ (x12_1 : Int) := of_decide_eq_true (by first | (with_reducible assumption) | assumption)
                  have q105 : x12_1 < (l0.length : Int) := of_decide_eq_true (by first | (with_reducible assumption) | assumption)
                  obtain ⟨ad105, e105, hx105_0⟩ := Kd.at_int HR0.out x12_1 p105 q105
                  cases e105
                  replace p105 := eq_true p105
                  replace q105 := eq_true q105
                  go_wp2_with (first | ((with_reducible refine gate_callee (f := 119) rfl ?_); refine goesL_ (some 17) rfl rfl Try.func119 (by kernel_rfl) rfl #[.int .i64 (rd l0 x12_1)] rfl (by (try simp only [List.map_toArray, List.map_cons, List.map_nil]); first | done | rfl | (simp only [List.length_drop, List.length_take]; rfl)) ?_; (with_reducible refine (lit_is.calls (rd l0 x12_1) false _ A7.out).mono ?_); rintro e w' ⟨rfl, ⟨nd, rfl⟩⟩; refine ⟨_, rfl, ?_⟩))
                  go_ret
                  exact ⟨by first | rfl | (simp; done) | (simp [*]; done), by repeat (first | exact Drawn0.refl _ | apply Drawn0.step)⟩
            · rw [if_neg c6] at H
              exact absurd H (by simp)
          · rw [if_neg c5] at H
            exact absurd H (by simp)
        · rw [if_neg c4] at H
          have c4b0 : decide (x12_1 < (l0.length : Int)) = false := decide_eq_false c4
          clear c4
          as_aux_lemma =>
            obtain rfl := Option.some.inj H
            go_wp2
            go_ret
            exact ⟨by first | rfl | (simp; done) | (simp [*]; done), by repeat (first | exact Drawn0.refl _ | apply Drawn0.step)⟩

end Go.Proofs.Ytfcofpgehlmbbaa.P

-- Printed by wip/tools/pp.py of this claim's session (over the kit's print.py); Lean checks it.
namespace Go.Proofs.Ytfcofpgehlmbbaa.P
open Go.RowKit Go.Proofs.YtfcofpgehlmbbaaW.PrintWords Go.Proofs.YtfcofpgehlmbbaaW.PrintLast Go.Proofs.YtfcofpgehlmbbaaW.PrintMore
attribute [local go_sem] max2_int min2_int max_two min_two max_three min_three max_four min_four   -- for this text's walks alone
set_option linter.unusedVariables false
set_option linter.unusedSimpArgs false

-- SOLO
-- IMPORTS Derived.Test.YtfcofpgehlmbbaaPxAunitEng Derived.StillTailTactics
/-! ### unit_Engine_put: function 76 -/
/-- A literal behind the trail. -/
def Eng.put (E : Eng) (l why : Int) : Eng := { E with tr := E.tr ++ [l], ms := fun x => if x = l then some ((E.st.length : Int), why) else E.ms x }
theorem mkV_set (f : Int → Option (Int × Int)) (l a b : Int) (x : Int) : setI (mkV f) l (some (.agg #[.int .i64 a, .int .i64 b])) x = mkV (fun x => if x = l then some (a, b) else f x) x := by
  unfold setI mkV
  by_cases h : x = l
  · simp only [if_pos h]; rfl
  · simp only [if_neg h]
theorem drewE (w : World) : ({ w with drawn := w.drawn + 1 } : World) = w.drew := rfl
set_option maxRecDepth 100000 in
set_option maxHeartbeats 1000000 in
theorem eng_put.calls (E : Eng) (B : Nat) (T : Tag) (p : EngP) (l why : Int) (w : World) (h : EngIn w B T E p) (hl : (Lit.int .i64 l).wf = true) (hlen : E.tr.length < 4398046511104) :
    Calls Try.prog 76 #[.pointer (some ⟨B, 0, none⟩), .int .i64 l, .int .i64 why] w fun e w' => e = .returned (.tuple #[]) ∧ EngPost B T p (E.put l why) w w' := by
  have c3 := h.cells.2.2.2.1
  have f3 := h.cells.2.2.2.2.2.2.2 3
  have HE := Aside0.mk h
  have HLN := Aside0.mk hlen
  clear h hlen
  go_enter Try.func76, Try.ntmps76
  go_wp2_with (at_builtin; refine Kd.R_append (Kd.int .i64) (w0 := w) 0 rfl (.tmp 10) (.tmp 12) 33 3 (.int .i64 0) 8 rfl Try.underlying33 (by kernel_rfl) rfl (by decide) (by decide) p.vT E.tr l [.int .i64 l] (fun k => T k = (4, 0) ∨ w.heap.size ≤ k) (fun _ => False) rfl rfl rfl (fun _ h => h.elim) (fun k hk => .inr hk) (Kd.R_mono HE.out.tr (fun _ hk => .inl hk)) (Below.refl 0 _) (Nat.zero_le _) (by have := HLN.out; omega) ?_; intro v1 w1 r1 hb1 hg1 hat1; obtain ⟨A1, k1, e1⟩ := Kd.R_slice r1; rw [List.length_append, List.length_singleton] at e1; subst e1; obtain ⟨c31, f31⟩ : w1.cell? ⟨B, 3, none⟩ = some p.vT ∧ w1.frozen? ⟨B, 3, none⟩ = false := HE.out.after HE.out.tr.1 (by decide) hg1 3)
  obtain ⟨T1, E1, p1, h1, m1, hE1, hf1⟩ : ∃ T1 E1 p1, EngIn (w1.setCell ⟨B, 3, none⟩ (.slice A1 (E.tr.length + 1) k1)) B T1 E1 p1 ∧ Moved T T1 w (w1.setCell ⟨B, 3, none⟩ (.slice A1 (E.tr.length + 1) k1)) ∧ E1 = { E with tr := E.tr ++ [l] } ∧ p1.fw = p.fw := by
    obtain ⟨a1, a2⟩ := HE.out.turn_tr r1 hg1 (fun x hx => List.mem_append.2 (.inl (HE.out.mst x hx)))
    exact ⟨_, _, _, a1, a2, rfl, rfl⟩
  clear hb1 r1 hg1 hat1 c3 f3 c31 f31
  obtain ⟨W1, hW1⟩ : ∃ W1, w1.setCell ⟨B, 3, none⟩ (.slice A1 (E.tr.length + 1) k1) = W1 := ⟨_, rfl⟩
  rw [hW1] at h1 m1 ⊢
  have HE1 := Aside0.mk hE1
  have HF1 := Aside0.mk hf1
  have HD := Aside0.mk (h1.below (below_drew (Below.refl _ W1)))
  have HM := Aside0.mk (m1.trans (Moved.of_below (below_drew (Below.refl _ W1))))
  clear hW1 h1 m1 hE1 hf1
  have c4 := HD.out.cells.2.2.2.2.1
  obtain ⟨A5, n5, e5⟩ := Kd.R_slice HD.out.st
  have c5 := HD.out.cells.2.2.2.2.2.1
  rw [e5] at c5
  clear e5
  go_still_tail 12, (by kernel_rfl)
  refine wpList_store_I rfl (.tmp 19) (.tmp 20) (.tmp 27) 91 rfl 3 111 Try.underlying3 Try.underlying91 p1.bm (mkV E1.ms) rfl HD.out.ms l (.agg #[.int .i64 (E1.st.length : Int), .int .i64 why]) rfl rfl hl E1.tr (fun x hx => HD.out.mst x (by unfold mkV at hx; simpa using hx)) ?_ ?_
  · rw [HE1.out]
    have := HLN.out
    simp; omega
  · intro w2 hM2 hg2
    obtain ⟨h2, m2⟩ := HD.out.turn_ms (hM2.congr (mkV_set _ _ _ _)) hg2 (fun x hx => by
      by_cases e : x = l
      · rw [e, HE1.out]; simp
      · simp only [if_neg e] at hx
        exact HD.out.mst x hx)
    have H2 := Aside0.mk h2
    have M2 := Aside0.mk (HM.out.trans m2)
    clear h2 m2 hM2 hg2
    go_wp2
    go_end0
    refine ⟨rfl, T1, p1, ?_, M2.out, HF1.out⟩
    have h := H2.out
    rw [HE1.out] at h
    exact h


end Go.Proofs.Ytfcofpgehlmbbaa.P

-- Printed by wip/tools/pp.py of this claim's session (over the kit's print.py); Lean checks it.
namespace Go.Proofs.Ytfcofpgehlmbbaa.P
open Go.RowKit Go.Proofs.YtfcofpgehlmbbaaW.PrintWords Go.Proofs.YtfcofpgehlmbbaaW.PrintLast Go.Proofs.YtfcofpgehlmbbaaW.PrintMore
attribute [local go_sem] max2_int min2_int max_two min_two max_three min_three max_four min_four   -- for this text's walks alone
set_option linter.unusedVariables false
set_option linter.unusedSimpArgs false

-- SOLO
-- IMPORTS Derived.Test.YtfcofpgehlmbbaaPxAunitEng
/-! ### unit_Engine_look: function 80 -/
/-- A clause looked at: its open literal; nothing, if it holds, or has two. -/
def scanU (E : Eng) : List Int → Int → Option Int
  | [], o => some o
  | l :: t, o => if E.val l > 0 then none else if E.val l = 0 then (if o = 0 then scanU E t l else none) else scanU E t o
def Eng.look (E : Eng) (n : Nat) : Eng := match scanU E (E.cls.getD n []) 0 with
  | none => E
  | some o => if o = 0 then { E with br := (n : Int) } else E.put o (n : Int)
theorem Eng.val_or (E : Eng) (l : Int) : E.val l = 1 ∨ E.val l = 0 ∨ E.val l = -1 := by
  unfold Eng.val
  split
  · exact .inl rfl
  · split
    · exact .inr (.inr rfl)
    · exact .inr (.inl rfl)
/-- A clause's row, in the engine. -/
theorem EngIn.row {w : World} {B : Nat} {T : Tag} {E : Eng} {p : EngP} (h : EngIn w B T E p) (n : Nat) (hn : n < E.cls.length) : ∃ ad k A c, p.vC = .slice (some ad) E.cls.length k ∧ w.cell? (ad.add n) = some (.slice A E.cls[n].length c) ∧ Kd.C (Kd.int .i64) w A E.cls[n].length E.cls[n] := by
  obtain ⟨A0, k, e0⟩ := Kd.R_slice h.cls
  have hC := h.cls
  rw [e0] at hC
  obtain ⟨_, _, h3⟩ := Kd.R_reads' hC
  obtain ⟨ad, c, e1, hc1, hK, hcell⟩ := Kd.C_get h3 ((none, 0, 0) : Hd) (n : Int) (by omega) (by rw [h.len]; omega)
  have hx : p.hs[n]? = some (p.hs.getD n (none, 0, 0)) := by simp [show n < p.hs.length by rw [h.len]; exact hn]
  have hr := h.rows n _ _ hx (List.getElem?_eq_getElem hn)
  obtain ⟨A, c2, e2⟩ := Kd.R_slice hr
  have hr2 := hr
  rw [e2] at hr2
  have hK2 : c = [hdv (p.hs.getD ((n : Int).toNat) (none, 0, 0))] := hK
  refine ⟨ad, k, A, c2, by rw [e0, e1, h.len], ?_, (Kd.R_reads' hr2).2.2⟩
  have := hcell 0 _ (by rw [hK2, Int.toNat_natCast, e2]; rfl)
  rw [show ((n : Int).toNat * Kd.sz kH + 0) = n by rw [Int.toNat_natCast]; show n * 1 + 0 = n; omega] at this
  exact this
set_option maxRecDepth 100000 in
set_option maxHeartbeats 2000000 in
theorem eng_look.calls (E : Eng) (B : Nat) (T : Tag) (p : EngP) (n : Nat) (w : World) (h : EngIn w B T E p) (hn : n < E.cls.length) (hlit : ∀ x ∈ E.cls[n], (Lit.int .i64 x).wf = true) (hlen : E.tr.length < 4398046511104) :
    Calls Try.prog 80 #[.pointer (some ⟨B, 0, none⟩), .int .i64 (n : Int)] w fun e w' => e = .returned (.tuple #[]) ∧ EngPost B T p (E.look n) w w' := by
  obtain ⟨ad, k, A, c, e0, cr, hC⟩ := h.row n hn
  have c1 := h.cells.2.1
  rw [e0] at c1
  have hlk : E.look n = match scanU E E.cls[n] 0 with | none => E | some o => if o = 0 then { E with br := (n : Int) } else E.put o (n : Int) := by
    unfold Eng.look
    rw [List.getD_eq_getElem?_getD, List.getElem?_eq_getElem hn, Option.getD_some]
  obtain ⟨cl, hcl⟩ : ∃ cl, E.cls[n] = cl := ⟨_, rfl⟩
  rw [hcl] at cr hC hlk hlit
  obtain ⟨E2, hE2⟩ : ∃ E2, E.look n = E2 := ⟨_, rfl⟩
  rw [hE2] at hlk ⊢
  have hbig := hC.2.1
  have hcb : (E.cls.length : Int) ≤ 9223372036854775807 := by have := (Kd.R_reads' (e0 ▸ h.cls)).2.2.2.1; rw [h.len] at this; omega
  have HE := Aside0.mk h
  have HC := Aside0.mk hC
  have HK := Aside0.mk hlk
  have HL := Aside0.mk hlit
  have HLN := Aside0.mk hlen
  have p0 : ((0 : Int) ≤ (n : Int)) = True := eq_true (by omega)
  have p1 : ((n : Int) < (E.cls.length : Int)) = True := eq_true (by omega)
  have p2 : (n < E.cls.length) = True := eq_true hn
  clear h hC hlk hlit hlen hcl hE2 e0
  go_enter Try.func80, Try.ntmps80
  go_wp2
  go_loopg [4, 6, 7, 16, 23, 26, 33] cl.length (fun gg v4 _ _ v16 _ _ _ wr => ∃ (o : Int) (j : Nat), v4 = .int .i64 o ∧ v16 = .int .i64 (j : Int) ∧ Aside0 (j + gg = cl.length) ∧ Aside0 (Below w.heap.size w wr) ∧ Aside0 (scanU E cl 0 = scanU E (cl.drop j) o) ∧ Aside0 (o = 0 ∨ o ∈ cl))
  case atStart => exact ⟨0, 0, rfl, rfl, ⟨by simp⟩, ⟨Below.refl _ _⟩, ⟨rfl⟩, ⟨.inl rfl⟩⟩
  case round =>
    clear c1 cr
    obtain ⟨o, j, rfl, rfl, hg, hB, hS, hO⟩ := hrel
    by_cases hlt : j < cl.length
    · obtain ⟨ad2, e1, x1⟩ := Kd.at_int (Kd.C_below HC.out hB.out) (j : Int) (by omega) (by omega)
      cases e1
      obtain ⟨y, hy⟩ : ∃ y, cl[j] = y := ⟨_, rfl⟩
      have hrd : rd cl (j : Int) = y := by simp [rd, hlt, hy]
      rw [hrd] at x1
      simp only [Int.toNat_natCast] at x1
      have hmem : y ∈ cl := by rw [← hy]; exact List.getElem_mem hlt
      have hS2 := hS.out
      rw [List.drop_eq_getElem_cons hlt, hy, scanU] at hS2
      have hcall := eng_Value.calls E B T p y wr (HE.out.below hB.out) (HL.out y hmem)
      have HY := Aside0.mk hmem
      have P0 : ((0 : Int) ≤ (j : Int)) = True := eq_true (by omega)
      have P1 : ((j : Int) < (cl.length : Int)) = True := eq_true (by omega)
      have P2 : (j < cl.length) = True := eq_true hlt
      have hd : decide ((j : Int) < (cl.length : Int)) = true := decide_eq_true (by omega)
      rcases E.val_or y with hv | hv | hv
      · rw [hv] at hcall hS2
        rw [if_pos (by decide)] at hS2
        have HCALL := Aside0.mk hcall
        have HS2 := Aside0.mk hS2
        clear hS hS2 hcall hv hy hrd hmem
        go_wp2_with fail
        refine HCALL.out.mono ?_
        rintro e' w1 ⟨rfl, hb1⟩
        have HB1 := Aside0.mk (hB.out.trans (hb1.mono hB.out.size))
        clear hb1 HCALL
        go_wp2
        try simp only [Exit.inBlock, Exit.then]
        refine bodyPost_ret (results_none rfl _ _ _) rfl ?_
        refine ⟨rfl, T, p, ?_, Moved.of_below HB1.out, rfl⟩
        rw [HK.out, HS2.out]
        exact HE.out.below HB1.out
      · rw [hv] at hcall hS2
        rw [if_neg (by decide), if_pos rfl] at hS2
        have HCALL := Aside0.mk hcall
        have HS2 := Aside0.mk hS2
        clear hS hS2 hcall hv hy hrd hmem
        by_cases ho : o = 0
        · subst ho
          have hS3 := HS2.out
          rw [if_pos rfl] at hS3
          have HS3 := Aside0.mk hS3
          clear hS3 HS2
          go_wp2_with fail
          refine HCALL.out.mono ?_
          rintro e' w1 ⟨rfl, hb1⟩
          have HB1 := Aside0.mk (hB.out.trans (hb1.mono hB.out.size))
          clear hb1 HCALL
          go_wp2
          go_roundg (cl.length - (j + 1))
          case measure => have := hg.out; omega
          case rel => exact ⟨y, j + 1, rfl, by simp, ⟨by have := hg.out; omega⟩, HB1, HS3, ⟨.inr HY.out⟩⟩
        · have hS3 := HS2.out
          rw [if_neg ho] at hS3
          have HS3 := Aside0.mk hS3
          have c1' : (o != 0) = true := by simpa using ho
          have c2' : (o == 0) = false := by simpa using ho
          clear hS3 HS2 ho
          go_wp2_with fail
          refine HCALL.out.mono ?_
          rintro e' w1 ⟨rfl, hb1⟩
          have HB1 := Aside0.mk (hB.out.trans (hb1.mono hB.out.size))
          clear hb1 HCALL
          go_wp2
          try simp only [Exit.inBlock, Exit.then]
          refine bodyPost_ret (results_none rfl _ _ _) rfl ?_
          refine ⟨rfl, T, p, ?_, Moved.of_below HB1.out, rfl⟩
          rw [HK.out, HS3.out]
          exact HE.out.below HB1.out
      · rw [hv] at hcall hS2
        rw [if_neg (by decide), if_neg (by decide)] at hS2
        have HCALL := Aside0.mk hcall
        have HS2 := Aside0.mk hS2
        clear hS hS2 hcall hv hy hrd hmem
        go_wp2_with fail
        refine HCALL.out.mono ?_
        rintro e' w1 ⟨rfl, hb1⟩
        have HB1 := Aside0.mk (hB.out.trans (hb1.mono hB.out.size))
        clear hb1 HCALL
        go_wp2
        go_roundg (cl.length - (j + 1))
        case measure => have := hg.out; omega
        case rel => exact ⟨o, j + 1, rfl, by simp, ⟨by have := hg.out; omega⟩, HB1, HS2, hO⟩
    · have hd : decide ((j : Int) < (cl.length : Int)) = false := decide_eq_false (by omega)
      have hS2 := hS.out
      rw [List.drop_of_length_le (by omega), scanU] at hS2
      have hk := HK.out
      rw [hS2] at hk
      simp only at hk
      have HB := Aside0.mk hB.out
      by_cases ho : o = 0
      · subst ho
        rw [if_pos rfl] at hk
        have hE := HE.out.below HB.out
        obtain ⟨h2, m2⟩ := hE.turn_br (n : Int)
        have H2 := Aside0.mk h2
        have M2 := Aside0.mk ((Moved.of_below HB.out).trans m2)
        have HK2 := Aside0.mk hk
        have c6 := hE.cells.2.2.2.2.2.2.1
        have f6 := hE.cells.2.2.2.2.2.2.2 6
        clear hk h2 m2 hE hS hS2 HK
        go_wp2
        try simp only [Exit.inBlock, Exit.then]
        refine bodyPost_ret (results_none rfl _ _ _) rfl ?_
        refine ⟨rfl, T, p, ?_, M2.out, rfl⟩
        rw [HK2.out]
        exact H2.out
      · rw [if_neg ho] at hk
        have HK2 := Aside0.mk hk
        have c1' : (o != 0) = true := by simpa using ho
        have c2' : (o == 0) = false := by simpa using ho
        have HCALL := Aside0.mk (eng_put.calls E B T p o (n : Int) wr (HE.out.below HB.out) (HL.out o (hO.out.resolve_left ho)) HLN.out)
        clear hk hS hS2 HK ho
        go_wp2_with fail
        refine HCALL.out.mono ?_
        rintro e' w1 ⟨rfl, T2, p2, h2, m2, hf2⟩
        have H2 := Aside0.mk h2
        have M2 := Aside0.mk ((Moved.of_below HB.out).trans m2)
        have HF2 := Aside0.mk hf2
        clear h2 m2 hf2 HCALL
        go_wp2
        go_end0
        refine ⟨rfl, T2, p2, ?_, M2.out, HF2.out⟩
        rw [HK2.out]
        exact H2.out


end Go.Proofs.Ytfcofpgehlmbbaa.P

-- Printed by wip/tools/pp.py of this claim's session (over the kit's print.py); Lean checks it.
namespace Go.Proofs.Ytfcofpgehlmbbaa.P
open Go.RowKit Go.Proofs.YtfcofpgehlmbbaaW.PrintWords Go.Proofs.YtfcofpgehlmbbaaW.PrintLast Go.Proofs.YtfcofpgehlmbbaaW.PrintMore
attribute [local go_sem] max2_int min2_int max_two min_two max_three min_three max_four min_four   -- for this text's walks alone
set_option linter.unusedVariables false
set_option linter.unusedSimpArgs false

-- SOLO
-- IMPORTS Derived.Test.YtfcofpgehlmbbaaPxAunitEng Derived.StillTailTactics
/-! ### unit_Engine_follow: function 77 -/
/-- Clauses looked at, one behind the other; true: something is broken. -/
def Eng.looks : List Int → Eng → Option (Eng × Bool)
  | [], E => some (E, false)
  | n :: t, E => if E.br ≥ 0 then some (E, true) else if 0 ≤ n ∧ n.toNat < E.cls.length ∧ E.tr.length < 4398046511104 then Eng.looks t (E.look n.toNat) else none
/-- It goes on from a place of the trail. -/
def Eng.follow : Nat → Eng → Nat → Option Eng
  | 0, _, _ => none
  | k + 1, E, i => if i < E.tr.length then (Eng.looks (E.wt (wrap64 (-(rd E.tr (i : Int))))) E).bind fun r => if r.2 = true then some r.1 else Eng.follow k r.1 (i + 1) else some E
theorem Eng.look_cls (E : Eng) (n : Nat) : (E.look n).cls = E.cls ∧ (E.look n).wt = E.wt ∧ (E.look n).ws = E.ws ∧ (E.look n).n = E.n ∧ (E.look n).st = E.st := by
  unfold Eng.look
  split
  · exact ⟨rfl, rfl, rfl, rfl, rfl⟩
  · split
    · exact ⟨rfl, rfl, rfl, rfl, rfl⟩
    · exact ⟨rfl, rfl, rfl, rfl, rfl⟩
/-- All clauses' literals are whole numbers of 64 bits. -/
theorem zero_row (W : World) : (zeroValue 33).run Try.prog W = .ok (.slice none 0 0) W := by kernel_rfl
set_option maxRecDepth 100000 in
set_option maxHeartbeats 4000000 in
theorem eng_follow.calls (k : Nat) (E : Eng) (B : Nat) (T : Tag) (p : EngP) (i : Nat) (E2 : Eng) (w : World) (h : EngIn w B T E p) (hlit : E.Lits) (hf : Eng.follow k E i = some E2) :
    Calls Try.prog 77 #[.pointer (some ⟨B, 0, none⟩), .int .i64 (i : Int)] w fun e w' => e = .returned (.tuple #[]) ∧ EngPost B T p E2 w w' := by
  have HE := Aside0.mk h
  have HL := Aside0.mk hlit
  have HF := Aside0.mk hf
  clear h hlit hf
  go_enter Try.func77, Try.ntmps77
  go_wp2
  go_loopg [1, 5, 29] k (fun gg v1 _ _ wr => ∃ (i : Nat) (E1 : Eng) (T1 : Tag) (p1 : EngP), v1 = .int .i64 (i : Int) ∧ Aside0 (EngIn wr B T1 E1 p1) ∧ Aside0 (Moved T T1 w wr) ∧ Aside0 (p1.fw = p.fw) ∧ Aside0 (E1.Lits) ∧ Aside0 (Eng.follow gg E1 i = some E2) ∧ Aside0 (gg ≤ k))
  case atStart => exact ⟨i, E, T, p, rfl, HE, ⟨Moved.refl _ _⟩, ⟨rfl⟩, HL, HF, ⟨Nat.le_refl _⟩⟩
  case round =>
    clear HE HL HF
    obtain ⟨i, E1, T1, p1, rfl, HE, HM, HP, HL, HF, HG⟩ := hrel
    obtain ⟨wo, rfl⟩ : ∃ wo : World, wo = wr := ⟨_, rfl⟩
    cases gk with
    | zero => exact absurd HF.out (by simp [Eng.follow])
    | succ k1 =>
      have hF := HF.out
      rw [Eng.follow] at hF
      clear HF
      have c3 := HE.out.cells.2.2.2.1
      obtain ⟨A3, n3, e3⟩ := Kd.R_slice HE.out.tr
      have hR3 := HE.out.tr
      rw [e3] at c3 hR3
      obtain ⟨_, _, hC3⟩ := Kd.R_reads' hR3
      have hbig := hC3.2.1
      by_cases hlt : i < E1.tr.length
      · rw [if_pos hlt] at hF
        obtain ⟨ad, e1, x1⟩ := Kd.at_int (Kd.C_below hC3 (below_drew (Below.refl _ wo))) (i : Int) (by omega) (by omega)
        cases e1
        simp only [Int.toNat_natCast] at x1
        obtain ⟨y, hy⟩ : ∃ y, rd E1.tr (i : Int) = y := ⟨_, rfl⟩
        rw [hy] at x1 hF
        obtain ⟨⟨E3, b3⟩, hlk, hF⟩ := Option.bind_eq_some_iff.mp hF
        dsimp only at hF
        have hD := HE.out.below (below_drew (Below.refl _ wo))
        have q1 := hD.wt.look Try.underlying3 Try.underlying90 (zero_row _) (wf_wrap y)
        obtain ⟨x, hx⟩ : ∃ x, wrap64 (-y) = x := ⟨_, rfl⟩
        have P6 : IntKind.i64.wrap (-y) = wrap64 (-y) := Go.IntWalk.i64_left _
        rw [hx] at q1 hlk P6
        have hg := HE.out.grp x
        obtain ⟨Ag, ng, eg⟩ := Kd.R_slice hg
        rw [eg] at q1
        have d2 := hD.cells.2.2.1
        have d3 : wo.drew.cell? ⟨B, 3, none⟩ = some (.slice (some ad) E1.tr.length n3) := by rw [hD.cells.2.2.2.1, e3]
        have P0 : ((0 : Int) ≤ (i : Int)) = True := eq_true (by omega)
        have P1 : ((i : Int) < (E1.tr.length : Int)) = True := eq_true (by omega)
        have P2 : (i < E1.tr.length) = True := eq_true hlt
        have hd : decide ((i : Int) < (E1.tr.length : Int)) = true := decide_eq_true (by omega)
        have HEG := Aside0.mk eg
        have HLK := Aside0.mk hlk
        have HF := Aside0.mk hF
        have HD := Aside0.mk hD
        obtain ⟨N3, hN3⟩ : ∃ N3, E1.tr.length = N3 := ⟨_, rfl⟩
        obtain ⟨ws, hws⟩ : ∃ ws, E1.wt x = ws := ⟨_, rfl⟩
        rw [hws] at HLK HEG q1
        have HWS := Aside0.mk hws
        have hwb : ws.length ≤ 9223372036854775807 := by rw [← hws]; have := hg; rw [eg] at this; exact (Kd.R_reads' this).2.2.2.1
        clear e3 hR3 hC3 hy hx hg eg hlk hF hD hN3 hws
        go_wp2
        go_still (by kernel_rfl)
        go_wp2
        have HB0 := Aside0.mk (Moved.of_below (T := T1) (below_drew (Below.refl wo.heap.size wo)))
        clear q1 d2 d3 c3 x1 P6
        go_loopg [5, 29] ws.length (fun gg _ v29 wr => ∃ (j : Nat) (E4 : Eng) (T4 : Tag) (p4 : EngP), v29 = .int .i64 (j : Int) ∧ Aside0 (j + gg = ws.length) ∧ Aside0 (EngIn wr B T4 E4 p4) ∧ Aside0 (Moved T T4 w wr) ∧ Aside0 (p4.fw = p.fw) ∧ Aside0 (E4.Lits ∧ E4.wt x = ws) ∧ Aside0 (Eng.looks (ws.drop j) E4 = some (E3, b3)))
        case atStart => exact ⟨0, E1, T1, p1, rfl, ⟨by simp⟩, HD, ⟨HM.out.trans HB0.out⟩, HP, ⟨HL.out, HWS.out⟩, HLK⟩
        case round =>
          clear HD HLK HWS HB0 HE HM HL
          obtain ⟨j, E4, T4, p4, rfl, hg, HE, HM, HP4, HL, HLK⟩ := hrel
          by_cases hjl : j < ws.length
          · have hgr := HE.out.grp x
            rw [HL.out.2, HP4.out, ← HP.out, HEG.out] at hgr
            obtain ⟨ad2, e1, x1⟩ := Kd.at_int (Kd.R_reads' hgr).2.2 (j : Int) (by omega) (by omega)
            cases e1
            obtain ⟨y, hy⟩ : ∃ y, ws[j] = y := ⟨_, rfl⟩
            have hrd : rd ws (j : Int) = y := by simp [rd, hjl, hy]
            rw [hrd] at x1
            simp only [Int.toNat_natCast] at x1
            have hlk := HLK.out
            rw [List.drop_eq_getElem_cons hjl, hy, Eng.looks] at hlk
            have c6 := HE.out.cells.2.2.2.2.2.2.1
            have P3 : ((0 : Int) ≤ (j : Int)) = True := eq_true (by omega)
            have P4 : ((j : Int) < (ws.length : Int)) = True := eq_true (by omega)
            have P5 : (j < ws.length) = True := eq_true hjl
            have hd2 : decide ((j : Int) < (ws.length : Int)) = true := decide_eq_true (by omega)
            by_cases hbr : E4.br ≥ 0
            · rw [if_pos hbr] at hlk
              simp only [Option.some.injEq, Prod.mk.injEq] at hlk
              obtain ⟨h1, h2⟩ := hlk
              have hF := HF.out
              rw [← h2, if_pos rfl, ← h1] at hF
              have HE2 := Aside0.mk (Option.some.inj hF)
              have hd3 : decide ((0 : Int) ≤ E4.br) = true := decide_eq_true hbr
              clear h1 h2 hF hbr hrd hy hgr HLK
              go_wp2
              try simp only [Exit.inBlock, Exit.then]
              refine bodyPost_ret (results_none rfl _ _ _) rfl ?_
              rw [← HE2.out]
              exact ⟨rfl, T4, p4, HE.out, HM.out, HP4.out⟩
            · rw [if_neg hbr] at hlk
              by_cases hcond : 0 ≤ y ∧ y.toNat < E4.cls.length ∧ E4.tr.length < 4398046511104
              · rw [if_pos hcond] at hlk
                obtain ⟨hy0, hy1, hy2⟩ := hcond
                obtain ⟨m, rfl⟩ := Int.eq_ofNat_of_zero_le hy0
                rw [Int.toNat_natCast] at hy1 hlk
                have hd3 : decide ((0 : Int) ≤ E4.br) = false := decide_eq_false hbr
                have HCALL := Aside0.mk (eng_look.calls E4 B T4 p4 m wr HE.out hy1 (HL.out.1 _ (List.getElem_mem hy1)) hy2)
                have HLK2 := Aside0.mk hlk
                clear hlk hbr hrd hy hgr HLK hy0 hy1 hy2
                go_wp2_with fail
                refine HCALL.out.mono ?_
                rintro e' w5 ⟨rfl, T5, p5, h5, m5, f5⟩
                have H5 := Aside0.mk h5
                have M5 := Aside0.mk (HM.out.trans m5)
                have F5 := Aside0.mk (f5.trans HP4.out)
                obtain ⟨l1, l2, _⟩ := E4.look_cls m
                have L5 : Aside0 ((E4.look m).Lits ∧ (E4.look m).wt x = ws) := ⟨by unfold Eng.Lits; rw [l1]; exact HL.out.1, by rw [l2]; exact HL.out.2⟩
                clear h5 m5 f5 l1 l2 HCALL
                go_wp2
                go_roundg (ws.length - (j + 1))
                case measure => have := hg.out; omega
                case rel => exact ⟨j + 1, E4.look m, T5, p5, by simp, ⟨by have := hg.out; omega⟩, H5, M5, F5, L5, HLK2⟩
              · rw [if_neg hcond] at hlk; cases hlk
          · have hd2 : decide ((j : Int) < (ws.length : Int)) = false := decide_eq_false (by omega)
            have P5 : (j < ws.length) = False := eq_false hjl
            have hlk := HLK.out
            rw [List.drop_of_length_le (by omega), Eng.looks] at hlk
            simp only [Option.some.injEq, Prod.mk.injEq] at hlk
            obtain ⟨h1, h2⟩ := hlk
            have hF := HF.out
            rw [← h2, if_neg (by decide), ← h1] at hF
            have HF2 := Aside0.mk hF
            clear h1 h2 hF HLK
            go_wp2
            go_roundg k1
            case measure => have := HG.out; omega
            case rel => exact ⟨i + 1, E4, T4, p4, by simp, HE, HM, HP4, ⟨HL.out.1⟩, HF2, ⟨by have := HG.out; omega⟩⟩
      · rw [if_neg hlt] at hF
        have HE2 := Aside0.mk (Option.some.inj hF)
        have hd : decide ((i : Int) < (E1.tr.length : Int)) = false := decide_eq_false (by omega)
        have P2 : (i < E1.tr.length) = False := eq_false hlt
        clear e3 hR3 hC3 hF
        go_wp2
        go_end0
        rw [← HE2.out]
        exact ⟨rfl, T1, p1, HE.out, HM.out, HP.out⟩


end Go.Proofs.Ytfcofpgehlmbbaa.P

-- Printed by wip/tools/pp.py of this claim's session (over the kit's print.py); Lean checks it.
namespace Go.Proofs.Ytfcofpgehlmbbaa.P
open Go.RowKit Go.Proofs.YtfcofpgehlmbbaaW.PrintWords Go.Proofs.YtfcofpgehlmbbaaW.PrintLast Go.Proofs.YtfcofpgehlmbbaaW.PrintMore
attribute [local go_sem] max2_int min2_int max_two min_two max_three min_three max_four min_four   -- for this text's walks alone
set_option linter.unusedVariables false
set_option linter.unusedSimpArgs false

-- SOLO
-- IMPORTS Derived.Test.YtfcofpgehlmbbaaPxAunitEng
/-! ### unit_Engine_Push: function 27 -/
/-- A level more. -/
def Eng.push (k : Nat) (E : Eng) (l : Int) : Option (Eng × Bool) :=
  if E.br ≥ 0 then some (E, false) else (lit_Right.f k [l] E.n).bind fun e => if e ≠ 0 then some (E, false) else if E.val l ≠ 0 then some (E, false)
    else if E.tr.length < 2199023255552 ∧ E.st.length < 2199023255552 then (Eng.follow k (({ E with st := E.st ++ [(E.tr.length : Int)] } : Eng).put l (-1)) E.tr.length).bind fun E' => some (E', true) else none
theorem C_one (W : World) (l : Int) : Kd.C (Kd.int .i64) (W.alloc (.cells #[.int .i64 l] 3)) (some ⟨W.heap.size, 0, none⟩) 1 [l] :=
  ⟨rfl, by decide, fun _ => ⟨_, rfl, fun j p hp => ⟨[.int .i64 l], rfl, by
    have : p = l := by
      rcases j with _ | j
      · simpa using hp.symm
      · simp at hp
    rw [this]; rfl, fun i u hu => by
    have hj : j = 0 := by have := (List.getElem?_eq_some_iff.1 hp).1; simp at this; omega
    have hi : i = 0 := by have := (List.getElem?_eq_some_iff.1 hu).1; simp at this; omega
    subst hj; subst hi
    have := blk_cell (blk_new W (.cells #[.int .i64 l] 3)) 0
    simp at hu
    rw [← hu]
    exact this⟩⟩⟩
set_option maxRecDepth 100000 in
set_option maxHeartbeats 4000000 in
theorem eng_Push.calls (k : Nat) (E : Eng) (B : Nat) (T : Tag) (p : EngP) (l : Int) (E2 : Eng) (r : Bool) (w : World) (h : EngIn w B T E p) (hl : (Lit.int .i64 l).wf = true) (hlit : E.Lits) (hf : Eng.push k E l = some (E2, r)) :
    Calls Try.prog 27 #[.pointer (some ⟨B, 0, none⟩), .int .i64 l] w fun e w' => e = .returned (.bool r) ∧ EngPost B T p E2 w w' := by
  unfold Eng.push at hf
  have c0 := h.cells.1
  have c6 := h.cells.2.2.2.2.2.2.1
  have HE := Aside0.mk h
  have HL := Aside0.mk hlit
  by_cases hb : E.br ≥ 0
  · rw [if_pos hb] at hf
    simp only [Option.some.injEq, Prod.mk.injEq] at hf
    obtain ⟨h1, h2⟩ := hf
    subst h2
    have H2 := Aside0.mk h1
    have hd : decide ((0 : Int) ≤ E.br) = true := decide_eq_true hb
    clear h1 h hlit hb
    go_enter Try.func27, Try.ntmps27
    go_wp2
    go_ret
    rw [← H2.out]
    exact ⟨rfl, T, p, HE.out, Moved.refl _ _, rfl⟩
  rw [if_neg hb] at hf
  obtain ⟨e, he, hf⟩ := Option.bind_eq_some_iff.mp hf
  have hd : decide ((0 : Int) ≤ E.br) = false := decide_eq_false hb
  have hba : Below w.heap.size w (w.alloc (.cells #[.int .i64 l] 3)) := below_alloc (Below.refl _ _) _
  have HR := Aside0.mk (lit_Right.calls k (some ⟨w.heap.size, 0, none⟩) 1 [l] E.n e (w.alloc (.cells #[.int .i64 l] 3)) (C_one w l) (Nat.le_refl _) he)
  have c0a := pw_cell_below hba c0
  clear hb he
  by_cases h0 : e = 0
  · subst h0
    rw [if_neg (by decide)] at hf
    have HV := Aside0.mk (fun W (hW : Below w.heap.size w W) => eng_Value.calls E B T p l W (HE.out.below hW) hl)
    rcases E.val_or l with hv | hv | hv
    · rw [hv, if_pos (by decide)] at hf
      simp only [Option.some.injEq, Prod.mk.injEq] at hf
      obtain ⟨h1, h2⟩ := hf
      subst h2
      have H2 := Aside0.mk h1
      have HB := Aside0.mk hba
      have HVv := Aside0.mk hv
      clear h1 h hlit hba hv
      go_enter Try.func27, Try.ntmps27
      go_wp2_with fail
      refine HR.out.mono ?_
      rintro e' w1 ⟨rfl, ⟨⟨n1, rfl⟩⟩⟩
      have HB1 := Aside0.mk (HB.out.trans ((pw_below_drewN (Below.refl _ _) n1).mono HB.out.size))
      go_wp2_with fail
      refine (HV.out _ HB1.out).mono ?_
      rintro e' w2 ⟨rfl, hb2⟩
      rw [HVv.out]
      have HB2 := Aside0.mk (HB1.out.trans (hb2.mono HB1.out.size))
      clear hb2
      go_wp2
      go_ret
      rw [← H2.out]
      exact ⟨rfl, T, p, HE.out.below HB2.out, Moved.of_below HB2.out, rfl⟩
    · rw [hv, if_neg (by decide)] at hf
      by_cases hbd : E.tr.length < 2199023255552 ∧ E.st.length < 2199023255552
      · rw [if_pos hbd] at hf
        obtain ⟨E5, hf5, hr⟩ := Option.bind_eq_some_iff.mp hf
        simp only [Option.some.injEq, Prod.mk.injEq] at hr
        obtain ⟨h1, h2⟩ := hr
        subst h2
        have H2 := Aside0.mk h1
        have HB := Aside0.mk hba
        have HVv := Aside0.mk hv
        have HF := Aside0.mk hf5
        have HBD := Aside0.mk hbd
        clear h1 h hlit hba hv hf hf5 hbd
        go_enter Try.func27, Try.ntmps27
        go_wp2_with fail
        refine HR.out.mono ?_
        rintro e' w1 ⟨rfl, ⟨⟨n1, rfl⟩⟩⟩
        have HB1 := Aside0.mk (HB.out.trans ((pw_below_drewN (Below.refl _ _) n1).mono HB.out.size))
        go_wp2_with fail
        refine (HV.out _ HB1.out).mono ?_
        rintro e' wo ⟨rfl, hb2⟩
        rw [HVv.out]
        have hb3 := HB1.out.trans (hb2.mono HB1.out.size)
        have hbd := hb3.trans ((below_drew (Below.refl wo.heap.size wo)).mono hb3.size)
        have hD := HE.out.below hbd
        obtain ⟨A5, k5, e5⟩ := Kd.R_slice hD.st
        obtain ⟨A3, k3, e3⟩ := Kd.R_slice hD.tr
        have c5 := hD.cells.2.2.2.2.2.1
        have c3 := hD.cells.2.2.2.1
        have hst := hD.st
        rw [e5] at c5 hst
        rw [e3] at c3
        obtain ⟨ss, hss⟩ : ∃ ss, E.st = ss := ⟨_, rfl⟩
        rw [hss] at c5 hst
        obtain ⟨n3, hn3⟩ : ∃ n3, E.tr.length = n3 := ⟨_, rfl⟩
        rw [hn3] at c3
        have haft : ∀ w1, wo.drew.grownBy w1 (Value.slice A5 ss.length k5).ownBlock → w1.cell? ⟨B, 5, none⟩ = some (.slice A5 ss.length k5) ∧ w1.frozen? ⟨B, 5, none⟩ = false ∧ w1.cell? ⟨B, 3, none⟩ = some (.slice A3 n3 k3) := fun w1 hg1 => by
          have hv := hst.1
          have a5 := hD.after hv (tag_ne (by decide) _ _) hg1 5
          have a3 := hD.after hv (tag_ne (by decide) _ _) hg1 3
          refine ⟨?_, a5.2, ?_⟩
          · rw [a5.1]; show some p.vS = _; rw [e5, hss]
          · rw [a3.1]; show some p.vT = _; rw [e3, hn3]
        have hba : Below wo.drew.heap.size wo.drew (wo.drew.alloc (.cells #[.int .i64 (n3 : Int)] 3)) := below_alloc (Below.refl _ _) _
        have d5 := pw_cell_below hba c5
        have d3 := pw_cell_below hba c3
        have HAFT := Aside0.mk haft
        have HD := Aside0.mk hD
        have HST := Aside0.mk hst
        have HSS := Aside0.mk hss
        have HN3 := Aside0.mk hn3
        have HBd := Aside0.mk hbd
        have HSL := Aside0.mk (show ss.length < 4398046511104 by have := HBD.out.2; rw [hss] at this; omega)
        have HE5 := Aside0.mk e5
        clear haft hD hst hss hn3 hba hb2 hb3 hbd e5 e3 HB1 HB HR HV
        go_wp2
        refine start_ (n := 15) (S := fun w' => w'.cell? ⟨B, 5, none⟩ = some (.slice A5 ss.length k5) ∧ w'.cell? ⟨B, 3, none⟩ = some (.slice A3 n3 k3)) (ds := [14]) #[false, false, false, false, false, false, false, false, false, false, false, false, false, false, false] (by kernel_rfl) rfl rfl ⟨c5, c3⟩ (fun hHeld => ?_)
        refine pure_ (i := 0) (N := some 30) (v := ?_) (a' := ?_) #[true, false, false, false, false, false, false, false, false, false, false, false, false, false, false] rfl rfl (by kernel_rfl) (fun _ _ _ h => h) (Or.inl ⟨by rfl, ?_⟩) ?_ ?_
        rotate_left
        · intro w'
          go_simp
          with_reducible rfl
        rotate_left
        · simp only [Act.put, List.setIfInBounds_toArray, List.set_cons_zero, List.set_cons_succ, i64_w, i32_w]
          rfl
        refine pure_ (i := 1) (N := some 31) (v := ?_) (a' := ?_) #[true, true, false, false, false, false, false, false, false, false, false, false, false, false, false] rfl rfl (by kernel_rfl) (fun _ _ _ h => h) (Or.inl ⟨by rfl, ?_⟩) ?_ ?_
        rotate_left
        · intro w'
          go_simp
          with_reducible rfl
        rotate_left
        · simp only [Act.put, List.setIfInBounds_toArray, List.set_cons_zero, List.set_cons_succ, i64_w, i32_w]
          rfl
        refine pure_ (i := 2) (N := some 32) (v := ?_) (a' := ?_) #[true, true, true, false, false, false, false, false, false, false, false, false, false, false, false] rfl rfl (by kernel_rfl) (fun _ _ _ h => h) (Or.inl ⟨by rfl, ?_⟩) ?_ ?_
        rotate_left
        · intro w'
          go_simp
          with_reducible rfl
        rotate_left
        · simp only [Act.put, List.setIfInBounds_toArray, List.set_cons_zero, List.set_cons_succ, i64_w, i32_w]
          rfl
        refine pure_ (i := 3) (N := some 33) (v := ?_) (a' := ?_) #[true, true, true, true, false, false, false, false, false, false, false, false, false, false, false] rfl rfl (by kernel_rfl) (fun _ _ _ h => h) (Or.inl ⟨by rfl, ?_⟩) ?_ ?_
        rotate_left
        · intro w'
          go_simp
          with_reducible rfl
        rotate_left
        · simp only [Act.put, List.setIfInBounds_toArray, List.set_cons_zero, List.set_cons_succ, i64_w, i32_w]
          rfl
        refine pure_ (i := 5) (N := some 35) (v := ?_) (a' := ?_) #[true, true, true, true, false, true, false, false, false, false, false, false, false, false, false] rfl rfl (by kernel_rfl) (fun _ _ _ h => h) (Or.inl ⟨by rfl, ?_⟩) ?_ ?_
        rotate_left
        · intro w'
          go_simp
          with_reducible rfl
        rotate_left
        · simp only [Act.put, List.setIfInBounds_toArray, List.set_cons_zero, List.set_cons_succ, i64_w, i32_w]
          rfl
        refine pure_ (i := 6) (N := some 36) (v := ?_) (a' := ?_) #[true, true, true, true, false, true, true, false, false, false, false, false, false, false, false] rfl rfl (by kernel_rfl) (fun _ _ _ h => h) (Or.inl ⟨by rfl, ?_⟩) ?_ ?_
        rotate_left
        · intro w'
          go_simp
          with_reducible rfl
        rotate_left
        · simp only [Act.put, List.setIfInBounds_toArray, List.set_cons_zero, List.set_cons_succ, i64_w, i32_w]
          rfl
        refine pure_ (i := 7) (N := some 37) (v := ?_) (a' := ?_) #[true, true, true, true, false, true, true, true, false, false, false, false, false, false, false] rfl rfl (by kernel_rfl) (fun _ _ _ h => h) (Or.inl ⟨by rfl, ?_⟩) ?_ ?_
        rotate_left
        · intro w'
          go_simp
          with_reducible rfl
        rotate_left
        · simp only [Act.put, List.setIfInBounds_toArray, List.set_cons_zero, List.set_cons_succ, i64_w, i32_w]
          rfl
        refine take_ (i := 4) (N := some 34) (v := ?_) (a' := ?_) #[true, true, true, true, true, true, true, true, false, false, false, false, false, false, false] rfl rfl (by kernel_rfl) (fun _ _ _ h => h) (Or.inl ⟨by rfl, ?_⟩) hHeld ?_ ?_
        rotate_left
        · rintro w' ⟨s0, s1⟩
          go_simp
          with_reducible rfl
        rotate_left
        · simp only [Act.put, List.setIfInBounds_toArray, List.set_cons_zero, List.set_cons_succ, i64_w, i32_w]
          rfl
        refine take_ (i := 8) (N := some 38) (v := ?_) (a' := ?_) #[true, true, true, true, true, true, true, true, true, false, false, false, false, false, false] rfl rfl (by kernel_rfl) (fun _ _ _ h => h) (Or.inl ⟨by rfl, ?_⟩) hHeld ?_ ?_
        rotate_left
        · rintro w' ⟨s0, s1⟩
          go_simp
          with_reducible rfl
        rotate_left
        · simp only [Act.put, List.setIfInBounds_toArray, List.set_cons_zero, List.set_cons_succ, i64_w, i32_w]
          rfl
        refine pure_ (i := 9) (N := some 39) (v := ?_) (a' := ?_) #[true, true, true, true, true, true, true, true, true, true, false, false, false, false, false] rfl rfl (by kernel_rfl) (fun _ _ _ h => h) (Or.inl ⟨by rfl, ?_⟩) ?_ ?_
        rotate_left
        · intro w'
          go_simp
          with_reducible rfl
        rotate_left
        · simp only [Act.put, List.setIfInBounds_toArray, List.set_cons_zero, List.set_cons_succ, i64_w, i32_w]
          rfl
        refine one_ (i := 10) (N := some 40) #[true, true, true, true, true, true, true, true, true, true, true, false, false, false, false] rfl rfl (by kernel_rfl) (by decide) (fun K hK => ?_)
        refine value_ (w1 := ?_) (v := ?_) (by rfl) rfl ?_ ?_
        rotate_left 2
        · go_simp
          constructor
          · rfl
          · rfl
        refine hK.out _ _ ⟨d5, d3⟩ (fun hHeld => ?_)
        clear hK K
        refine norm_ (a' := ?_) ?_ ?_
        rotate_left
        · show Act.put _ (some 40) _ = _
          simp only [Act.put, List.setIfInBounds_toArray, List.set_cons_zero, List.set_cons_succ, i64_w, i32_w]
          rfl
        refine one_ (i := 11) (N := some 41) #[true, true, true, true, true, true, true, true, true, true, true, true, false, false, false] rfl rfl (by kernel_rfl) (by decide) (fun K hK => ?_)
        refine Kd.R_append_step (Kd.int .i64) (w0 := wo.drew) (W := wo.drew) 0 (by rfl) (.tmp 34) (.tmp 40) 33 3 (.int .i64 0) 8 rfl Try.underlying33 (by kernel_rfl) rfl (by decide) (by decide) (.slice A5 ss.length k5) ss (n3 : Int) [.int .i64 (n3 : Int)] (fun k => T k = (5, 0) ∨ wo.drew.heap.size ≤ k) (fun _ => False) (by rfl) (by rfl) rfl (fun _ h => h.elim) (fun k hk => .inr hk) (Kd.R_mono HST.out (fun _ hk => .inl hk)) (Below.refl 0 _) (Nat.zero_le _) (by have := HSL.out; omega) ?_
        intro v1 w1 r1' hb1 hg1 hat1
        obtain ⟨A6, k6, e6⟩ := Kd.R_slice r1'
        rw [List.length_append, List.length_singleton] at e6
        subst e6
        obtain ⟨c51, f51, c31⟩ := HAFT.out w1 hg1
        refine hK.out _ _ ⟨c51, c31⟩ (fun hHeld => ?_)
        clear hK K
        refine norm_ (a' := ?_) ?_ ?_
        rotate_left
        · show Act.put _ (some 41) _ = _
          simp only [Act.put, List.setIfInBounds_toArray, List.set_cons_zero, List.set_cons_succ, i64_w, i32_w]
          rfl
        refine pure_ (i := 12) (N := some 42) (v := ?_) (a' := ?_) #[true, true, true, true, true, true, true, true, true, true, true, true, true, false, false] rfl rfl (by kernel_rfl) (fun _ _ _ h => h) (Or.inl ⟨by rfl, ?_⟩) ?_ ?_
        rotate_left
        · intro w'
          go_simp
          with_reducible rfl
        rotate_left
        · simp only [Act.put, List.setIfInBounds_toArray, List.set_cons_zero, List.set_cons_succ, i64_w, i32_w]
          rfl
        refine pure_ (i := 13) (N := some 43) (v := ?_) (a' := ?_) #[true, true, true, true, true, true, true, true, true, true, true, true, true, true, false] rfl rfl (by kernel_rfl) (fun _ _ _ h => h) (Or.inl ⟨by rfl, ?_⟩) ?_ ?_
        rotate_left
        · intro w'
          go_simp
          with_reducible rfl
        rotate_left
        · simp only [Act.put, List.setIfInBounds_toArray, List.set_cons_zero, List.set_cons_succ, i64_w, i32_w]
          rfl
        refine last_ (i := 14) (N := none) #[true, true, true, true, true, true, true, true, true, true, true, true, true, true, true] rfl rfl (by kernel_rfl) (by decide) (fun K hK => ?_)
        refine skip_ (w1 := ?_) (by rfl) rfl ?_ ?_
        rotate_left
        · go_simp
          rfl
        refine hK.out _ _ ?_
        clear hK K
        refine done_ (by kernel_rfl) ?_
        have hgw : wo.drew.grownBy w1 p.vS.ownBlock := by rw [HE5.out, HSS.out]; exact hg1
        obtain ⟨T6, E6, p6, h6, m6, hE6, hp6⟩ : ∃ T6 E6 p6, EngIn (w1.setCell ⟨B, 5, none⟩ (.slice A6 (ss.length + 1) k6)) B T6 E6 p6 ∧ Moved T T6 wo.drew (w1.setCell ⟨B, 5, none⟩ (.slice A6 (ss.length + 1) k6)) ∧ E6 = { E with st := E.st ++ [(E.tr.length : Int)] } ∧ p6.fw = p.fw := by
          obtain ⟨a1, a2⟩ := HD.out.turn_st r1' hgw
          exact ⟨_, _, _, a1, a2, by rw [HSS.out, HN3.out], rfl⟩
        obtain ⟨W6, hW6⟩ : ∃ W6, w1.setCell ⟨B, 5, none⟩ (.slice A6 (ss.length + 1) k6) = W6 := ⟨_, rfl⟩
        rw [hW6] at h6 m6 ⊢
        have HM6 := Aside0.mk ((Moved.of_below HBd.out).trans m6)
        have HCP := Aside0.mk (eng_put.calls E6 B T6 p6 l (-1) W6 h6 hl (by rw [hE6]; have := HBD.out.1; show E.tr.length < _; omega))
        have HE6 := Aside0.mk hE6
        have HP6 := Aside0.mk hp6
        clear hgw hW6 h6 m6 hE6 hp6 r1' hb1 hg1 hat1 c51 f51 c31 c5 c3 d5 d3
        go_wp2_with fail
        refine HCP.out.mono ?_
        rintro e' w7 ⟨rfl, T7, p7, h7, m7, f7⟩
        have HM7 := Aside0.mk (HM6.out.trans m7)
        have HF7 := Aside0.mk (f7.trans HP6.out)
        have c3 := h7.cells.2.2.2.1
        obtain ⟨A7, k7, e7⟩ := Kd.R_slice h7.tr
        rw [e7, show (E6.put l (-1)).tr.length = n3 + 1 by rw [HE6.out]; show (E.tr ++ [l]).length = _; rw [List.length_append, HN3.out]; rfl] at c3
        have HCF := Aside0.mk (eng_follow.calls k _ B T7 p7 n3 E5 w7 h7 (by rw [HE6.out]; exact HL.out) (by rw [HE6.out, ← HN3.out]; exact HF.out))
        have hnb : n3 < 2199023255552 := by rw [← HN3.out]; exact HBD.out.1
        clear e7 h7 m7 f7 HCP
        go_wp2_with fail
        refine HCF.out.mono ?_
        rintro e' w8 ⟨rfl, T8, p8, h8, m8, f8⟩
        have H8 := Aside0.mk h8
        have M8 := Aside0.mk (HM7.out.trans m8)
        have F8 := Aside0.mk (f8.trans HF7.out)
        clear h8 m8 f8 HCF c3
        go_wp2
        go_ret
        rw [← H2.out]
        exact ⟨rfl, T8, p8, H8.out, M8.out, F8.out⟩
      · rw [if_neg hbd] at hf; cases hf
    · rw [hv, if_pos (by decide)] at hf
      simp only [Option.some.injEq, Prod.mk.injEq] at hf
      obtain ⟨h1, h2⟩ := hf
      subst h2
      have H2 := Aside0.mk h1
      have HB := Aside0.mk hba
      have HVv := Aside0.mk hv
      clear h1 h hlit hba hv
      go_enter Try.func27, Try.ntmps27
      go_wp2_with fail
      refine HR.out.mono ?_
      rintro e' w1 ⟨rfl, ⟨⟨n1, rfl⟩⟩⟩
      have HB1 := Aside0.mk (HB.out.trans ((pw_below_drewN (Below.refl _ _) n1).mono HB.out.size))
      go_wp2_with fail
      refine (HV.out _ HB1.out).mono ?_
      rintro e' w2 ⟨rfl, hb2⟩
      rw [HVv.out]
      have HB2 := Aside0.mk (HB1.out.trans (hb2.mono HB1.out.size))
      clear hb2
      go_wp2
      go_ret
      rw [← H2.out]
      exact ⟨rfl, T, p, HE.out.below HB2.out, Moved.of_below HB2.out, rfl⟩
  · rw [if_pos h0] at hf
    simp only [Option.some.injEq, Prod.mk.injEq] at hf
    obtain ⟨h1, h2⟩ := hf
    subst h2
    have H2 := Aside0.mk h1
    have HB := Aside0.mk hba
    have q1 : (e != 0) = true := by simpa using h0
    have q2 : (e == 0) = false := by simpa using h0
    clear h1 h hlit h0 hba
    go_enter Try.func27, Try.ntmps27
    go_wp2_with fail
    refine HR.out.mono ?_
    rintro e' w1 ⟨rfl, ⟨⟨n1, rfl⟩⟩⟩
    go_wp2
    go_ret
    rw [← H2.out]
    have hB := HB.out.trans ((pw_below_drewN (Below.refl _ _) n1).mono HB.out.size)
    exact ⟨rfl, T, p, HE.out.below hB, Moved.of_below hB, rfl⟩
set_option maxRecDepth 100000 in
theorem eng_Push.nobody (l : Int) (w : World) : Calls Try.prog 27 #[.pointer none, .int .i64 l] w fun e w' => e = .returned (.bool false) ∧ w' = w := by
  go_enter Try.func27, Try.ntmps27
  go_wp2
  go_ret
  exact ⟨rfl, rfl⟩


end Go.Proofs.Ytfcofpgehlmbbaa.P

-- Printed by wip/tools/pp.py of this claim's session (over the kit's print.py); Lean checks it.
namespace Go.Proofs.Ytfcofpgehlmbbaa.P
open Go.RowKit Go.Proofs.YtfcofpgehlmbbaaW.PrintWords Go.Proofs.YtfcofpgehlmbbaaW.PrintLast Go.Proofs.YtfcofpgehlmbbaaW.PrintMore
attribute [local go_sem] max2_int min2_int max_two min_two max_three min_three max_four min_four   -- for this text's walks alone
set_option linter.unusedVariables false
set_option linter.unusedSimpArgs false

-- SOLO
-- IMPORTS Derived.Lib.SlicesCompact Derived.Lib.RowBridge Derived.Shelf.SlSortCmp.NoneTotal Derived.Shelf.Slices.CompactI
/-! ### AUX sortInt -/
/-- A run of stores. -/
def setLI : List Int → Nat → List Int → List Int
  | xs, _, [] => xs
  | xs, o, y :: t => setLI (xs.set o y) (o + 1) t
theorem setLI_mid : ∀ (ys xs : List Int) (o : Nat), o + ys.length ≤ xs.length → (setLI xs o ys).take (o + ys.length) = xs.take o ++ ys
  | [], xs, o, _ => by simp [setLI]
  | y :: t, xs, o, h => by
    have ht := setLI_mid t (xs.set o y) (o + 1) (by simp at h ⊢; omega)
    rw [setLI, List.length_cons, show o + (t.length + 1) = o + 1 + t.length by omega, ht]
    simp only [List.length_cons] at h
    rw [List.take_add_one, List.take_set_of_le (Nat.le_refl o), List.getElem?_set_self (by omega)]
    simp
theorem setLI_length : ∀ (ys xs : List Int) (o : Nat), (setLI xs o ys).length = xs.length
  | [], _, _ => rfl
  | y :: t, xs, o => by rw [setLI, setLI_length t]; simp
theorem R_setsI {e base g n cap : Nat} {ok : Nat → Prop} : ∀ (ys xs : List Int) (o : Nat) (W : World), Kd.R (Kd.int .i64) e W base ok (.slice (some ⟨g, 0, none⟩) n cap) xs →
    Kd.R (Kd.int .i64) e (W.setCells g o (ys.map (Value.int .i64))) base ok (.slice (some ⟨g, 0, none⟩) n cap) (setLI xs o ys) ∧ W.grownBy (W.setCells g o (ys.map (Value.int .i64))) (some g)
  | [], xs, o, W, h => ⟨h, ⟨rfl, rfl, rfl, Nat.le_refl _, fun _ _ _ => rfl⟩⟩
  | y :: t, xs, o, W, h => by
    obtain ⟨h2, hg⟩ := Kd.R_putg h (o : Int) y
    simp only [Int.toNat_natCast] at h2 hg
    obtain ⟨h3, hg3⟩ := R_setsI t (xs.set o y) (o + 1) _ h2
    exact ⟨h3, World.grownBy.trans hg hg3⟩
open Go.Lib Go.Sort in
theorem R_holds {e base g cap n : Nat} {ok : Nat → Prop} {W : World} {xs : List Int} (h : Kd.R (Kd.int .i64) e W base ok (.slice (some ⟨g, 0, none⟩) n cap) xs) : Holds (Value.int .i64) W g 0 xs.toArray := fun j hj => by
  obtain ⟨hn, hnc, _⟩ := Kd.R_reads' h
  have hj' : j < xs.length := by simpa using hj
  obtain ⟨h1, h2⟩ := Kd.R_celln (0 : Int) h (j : Int) (by omega) (by omega)
  simp only [Int.toNat_natCast] at h1 h2
  rw [Nat.zero_add]
  refine ⟨?_, h2⟩
  have e1 : rdOf 0 xs (j : Int) = xs.toArray[j]! := by simp [rdOf, hj']
  rw [← e1]; exact h1
open Go.Lib Go.Sort in
/-- Over whatever the shelf's sort and compact leave: the row is one's own still, and holds the new numbers. -/
theorem R_rowPut {e base g cap n : Nat} {ok : Nat → Prop} {W : World} {xs : List Int} (ys : List Int) (hl : ys.length = xs.length) (q : Nat) (h : Kd.R (Kd.int .i64) e W base ok (.slice (some ⟨g, 0, none⟩) n cap) xs) :
    Kd.R (Kd.int .i64) e (putRow (Value.int .i64) (Sort.ahead W q) g 0 ys.toArray) base ok (.slice (some ⟨g, 0, none⟩) n cap) ys ∧ (W.drewN q).grownBy (putRow (Value.int .i64) (Sort.ahead W q) g 0 ys.toArray) (some g) := by
  rw [putRow_eq_setCells (Value.int .i64) W g 0 xs.toArray ys q (R_holds h) (by simpa using hl)]
  obtain ⟨h1, h2⟩ := R_setsI ys xs 0 (W.drewN q) (Kd.R_drewN h q)
  have e1 : setLI xs 0 ys = ys := by
    have hm := setLI_mid ys xs 0 (by omega)
    rw [List.take_of_length_le (by rw [setLI_length]; omega)] at hm
    simpa using hm
  rw [e1] at h1
  exact ⟨h1, h2⟩
open Go.Lib Go.Sort in
/-- What was laid behind the row leaves it. -/
theorem R_grow {e base : Nat} {ok : Nat → Prop} {W : World} {v : Value} {xs : List Int} (os : Array Obj) (h : Kd.R (Kd.int .i64) e W base ok v xs) : Kd.R (Kd.int .i64) e (grow W os) base ok v xs ∧ Below W.heap.size W (grow W os) := by
  have hb : Below W.heap.size W (grow W os) := by
    refine ⟨rfl, rfl, rfl, by simp [grow], fun k hk => ?_⟩
    show (W.heap ++ os)[k]? = W.heap[k]?
    exact Array.getElem?_append_left hk
  exact ⟨Kd.R_below h hb, hb⟩


end Go.Proofs.Ytfcofpgehlmbbaa.P
