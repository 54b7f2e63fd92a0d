import Derived.SizedLaws
import Derived.Deep.Slices
import Derived.WideShapes
import Derived.ChangeShapes
import Derived.ChangeMaps5
import Derived.Lib.SmallJoins
import Derived.ChangeSlices
import Derived.Test.YtfcofpgehlmbbaaKUnitNobody1
import Derived.Test.YtfcofpgehlmbbaaKUnitNobody3
namespace Go.Proofs.Ytfcofpgehlmbbaa.Open
open Go.RowKit Go.Proofs.YtfcofpgehlmbbaaW.PrintWords Go.Proofs.YtfcofpgehlmbbaaW.PrintLast Go.Proofs.YtfcofpgehlmbbaaW.PrintMore Go.ChangeShapes Go.WideShapes Go.Deep

/-- What a reading of type t tells of the cells: they hold a value of kind d, which is good, and which leads to blocks that lie there; all weights are within the bound. -/
def Opens (P : Program) (t : TypeId) {α : Type} (d : Kd α) (good : α → Prop) : Prop :=
  ∀ {H : Type} (enc : TypeId × Value → H) (w : World) (fuel : Nat) (cs : List Value) (x : DataW H × List MemPlace),
    DataW.trod enc P w 0 (fun _ => true) true fuel t cs = some x → (∀ n ∈ DataW.weights P t x.1, n ≤ 140737488351232) → ∃ a, Kd.FK d w (fun _ => True) a cs ∧ good a
/-- A row that is good: not longer than its bytes, each element good. -/
def Row (B : Nat) {α : Type} (good : α → Prop) (xs : List α) : Prop := xs.length * B ≤ 140737488351232 ∧ ∀ x ∈ xs, good x
def I64 (n : Int) : Prop := (Lit.int .i64 n).wf = true

variable {P : Program}
theorem cell_same {w W' : World} (hW : ∀ k, (fun _ => True) k → k < w.heap.size → W'.heap[k]? = w.heap[k]?) {p : Addr} {u : Value} (h : w.cell? p = some u) : W'.cell? p = some u := by
  have hlt : p.block < w.heap.size := by
    rcases Nat.lt_or_ge p.block w.heap.size with h1 | h1
    · exact h1
    · simp [World.cell?, Array.getElem?_eq_none h1] at h
  have hb : W'.heap[p.block]? = w.heap[p.block]? := hW _ trivial hlt
  unfold World.cell? at h ⊢
  rw [hb]; exact h
theorem int_ {t : TypeId} {k : IntKind} (ht : P.underlying t = some (.int k)) : Opens P t (Kd.int k) (fun n => (Lit.int k n).wf = true) := by
  intro H enc w fuel cs x h _
  obtain ⟨n, rfl, hx, hw⟩ := DataW.trod_int ht h
  exact ⟨n, fun _ _ => rfl, hw⟩
theorem bool_ {t : TypeId} (ht : P.underlying t = some .bool) : Opens P t Kd.bool (fun _ => True) := by
  intro H enc w fuel cs x h _
  obtain ⟨b, rfl, hx⟩ := DataW.trod_bool ht h
  exact ⟨b, fun _ _ => rfl, trivial⟩
theorem string_ {t : TypeId} (ht : P.underlying t = some .string) : Opens P t Kd.string (fun s => s.size ≤ maxLen) := by
  intro H enc w fuel cs x h _
  obtain ⟨s, rfl, hx, hs⟩ := DataW.trod_string ht h
  exact ⟨s, fun _ _ => rfl, hs⟩
theorem mem_weightsAll {H : Type} {e : TypeId} {n : Nat} : ∀ {l : List (DataW H)} {d : DataW H}, d ∈ l → n ∈ DataW.weights P e d → n ∈ DataW.weightsAll P e l
  | [], _, h, _ => by cases h
  | y :: l, d, h, hn => by
    rw [DataW.weightsAll]
    rcases List.mem_cons.1 h with rfl | h
    · exact List.mem_append_left _ hn
    · exact List.mem_append_right _ (mem_weightsAll h hn)
theorem slice_ {t e : TypeId} {α : Type} {d : Kd α} {good : α → Prop} {B : Nat} (ht : P.underlying t = some (.slice e)) (hd : P.cellsOf e = d.sz) (hB : P.bytesOf e = B) (hB0 : 0 < B) (he : Opens P e d good) :
    Opens P t (Kd.slice e d) (Row B good) := by
  intro H enc w fuel cs x h hx
  rcases open_slice ht h with ⟨rfl, rfl⟩ | ⟨a, len, cap, m, n, D, Pl, rfl, _, hl, hm, hmm, rfl, hel⟩
  · exact ⟨[], fun _ _ => ⟨none, 0, rfl, Nat.le_refl _, rfl, Nat.zero_le _, fun h => absurd h (Nat.lt_irrefl 0)⟩, by simp, fun x hx => by cases hx⟩
  · simp only [if_true] at hmm
    obtain rfl : m = cap := hmm
    rw [hd] at hel
    have hw : ∀ i, i < len → ∀ q ∈ DataW.weights P e (D i), q ≤ 140737488351232 := fun i hi q hq => by
      refine hx q ?_
      show q ∈ DataW.weights P t (DataW.slice _ _)
      rw [DataW.weights, ht]
      exact List.mem_cons_of_mem _ (List.mem_append_left _ (mem_weightsAll (List.mem_map.2 ⟨i, List.mem_range.2 hi, rfl⟩) hq))
    have hlen : len * B ≤ 140737488351232 := by
      have := hx ((len + (m - len)) * B) (by
        show _ ∈ DataW.weights P t (DataW.slice _ _)
        rw [DataW.weights, ht]
        simp [hB])
      exact Nat.le_trans (Nat.mul_le_mul_right _ (by omega)) this
    have hlt : len ≤ 140737488351232 := Nat.le_trans (Nat.le_mul_of_pos_right _ hB0) hlen
    have each : ∀ i, i < len → ∃ y, (∃ cs', w.cells? 0 (a.add (i * d.sz)) d.sz = some cs' ∧ Kd.FK d w (fun _ => True) y cs') ∧ good y := fun i hi => by
      obtain ⟨cs', h1, h2⟩ := hel i (by omega)
      obtain ⟨y, hy, hg⟩ := he enc w n cs' (D i, Pl i) h2 (hw i hi)
      exact ⟨y, ⟨cs', h1, hy⟩, hg⟩
    have : ∃ xs : List α, xs.length = len ∧ ∀ i y, xs[i]? = some y → (∃ cs', w.cells? 0 (a.add (i * d.sz)) d.sz = some cs' ∧ Kd.FK d w (fun _ => True) y cs') ∧ good y := by
      clear hw hlen hlt hel hx h
      clear hl
      induction len with
      | zero => exact ⟨[], rfl, fun i y h => by simp at h⟩
      | succ j ih =>
        obtain ⟨xs, hxs, hk⟩ := ih (fun i hi => each i (by omega))
        obtain ⟨y, hy⟩ := each j (by omega)
        refine ⟨xs ++ [y], by simp [hxs], fun i z hz => ?_⟩
        rcases Nat.lt_or_ge i xs.length with hi | hi
        · rw [List.getElem?_append_left hi] at hz; exact hk i z hz
        · rw [List.getElem?_append_right hi] at hz
          have : i - xs.length = 0 := by
            rcases Nat.eq_zero_or_pos (i - xs.length) with h0 | h0
            · exact h0
            · rw [List.getElem?_eq_none (by simp; omega)] at hz; cases hz
          rw [this] at hz
          simp at hz
          subst hz
          obtain rfl : i = j := by omega
          exact hy
    obtain ⟨xs, hxs, hk⟩ := this
    refine ⟨xs, fun W' hW => ⟨some a, m, by rw [hxs], by omega, ⟨rfl, by omega, fun _ => ⟨a, rfl, fun j p hj => ?_⟩⟩⟩, by rw [hxs]; exact hlen, fun y hy => ?_⟩
    · obtain ⟨⟨cs', h1, h2⟩, _⟩ := hk j p hj
      obtain ⟨_, h3, h4⟩ := World.cells?_some h1
      refine ⟨cs', h3, h2 W' hW, fun i u hu => ?_⟩
      have hi : i < d.sz := by rw [← h3]; exact (List.getElem?_eq_some_iff.1 hu).1
      have hc := h4 i hi
      rw [hu] at hc
      rw [Addr.add_add] at hc
      exact cell_same hW hc
    · obtain ⟨i, hi, rfl⟩ := List.getElem_of_mem hy
      exact (hk i _ (List.getElem?_eq_getElem hi)).2
/-- A struct of two fields in line. -/
theorem struct2_ {t : TypeId} {f0 f1 : Field} {α β : Type} {d0 : Kd α} {d1 : Kd β} {g0 : α → Prop} {g1 : β → Prop} (ht : P.underlying t = some (.struct #[f0, f1])) (h0 : f0.offset = 0) (c0 : P.cellsOf f0.type = d0.sz) (h1 : f1.offset = d0.sz) (c1 : P.cellsOf f1.type = d1.sz) (hc : P.cellsOf t = d0.sz + d1.sz)
    (o0 : Opens P f0.type d0 g0) (o1 : Opens P f1.type d1 g1) : Opens P t (Kd.pair d0 d1) (fun x => g0 x.1 ∧ g1 x.2) := by
  intro H enc w fuel cs x h hx
  obtain ⟨y0, y1, n, rfl, hl, t0, t1⟩ := trod_struct2 ht h
  have hw : ∀ (j : Nat) (f : Field) (q : DataW H), (#[f0, f1] : Array Field).toList[j]? = some f → [y0.1, y1.1][j]? = some q → ∀ m ∈ DataW.weights P f.type q, m ≤ 140737488351232 := fun j f q hf hq m hm => by
    refine hx m ?_
    show m ∈ DataW.weights P t (.agg [y0.1, y1.1])
    rw [DataW.weights, ht]
    exact DataW.weights_mem_each (ts := (#[f0, f1] : Array Field).toList.map (·.type)) (by rw [List.getElem?_map, hf]; rfl) hq m hm
  obtain ⟨a, ha, ga⟩ := o0 enc w n _ y0 t0 (hw 0 f0 y0.1 rfl rfl)
  obtain ⟨b, hb, gb⟩ := o1 enc w n _ y1 t1 (hw 1 f1 y1.1 rfl rfl)
  refine ⟨(a, b), fun W' hW => ⟨_, _, ?_, ha W' hW, hb W' hW⟩, ga, gb⟩
  rw [h0, c0, h1, c1, List.drop_zero, List.take_of_length_le (l := cs.drop d0.sz) (by rw [List.length_drop]; omega), List.take_append_drop]
theorem iso_ {t : TypeId} {α β : Type} {d : Kd α} {good : α → Prop} (f : β → α) (g : α → β) (hfg : ∀ a, f (g a) = a) (o : Opens P t d good) : Opens P t (Kd.iso d f) (fun x => good (f x)) := by
  intro H enc w fuel cs x h hx
  obtain ⟨a, ha, ga⟩ := o enc w fuel cs x h hx
  exact ⟨g a, fun W' hW => by show d.K W' (f (g a)) cs; rw [hfg]; exact ha W' hW, by show good (f (g a)); rw [hfg]; exact ga⟩
/-- A slice that is an argument. -/
theorem slice_arg {H : Type} {enc : TypeId × Value → H} {w : World} {t e : TypeId} {α : Type} {d : Kd α} {good : List α → Prop} (ho : Opens P t (Kd.slice e d) good) {A : Option Addr} {len cap : Nat} {x : DataW H} {p : List MemPlace}
    (h : DataW.Trod enc P w 0 (fun _ => true) true t (.slice A len cap) x p) (hx : ∀ n ∈ DataW.weights P t x, n ≤ 140737488351232) :
    ∃ l : List α, len = l.length ∧ Kd.F d w (fun _ => True) A l.length l ∧ l.length ≤ cap ∧ good l := by
  obtain ⟨fuel, hf⟩ := h
  obtain ⟨l, hF, hg⟩ := ho enc w fuel _ _ hf hx
  obtain ⟨A', c, hcs, hl, hc⟩ := Kd.FK_slice_open hF
  simp [Value.cells] at hcs
  obtain ⟨rfl, rfl, rfl⟩ := hcs
  exact ⟨l, rfl, hc, hl, hg⟩
/-- A slice that is a struct's field. -/
theorem slice_field {H : Type} {enc : TypeId × Value → H} {w : World} {t e : TypeId} {α : Type} {d : Kd α} {good : List α → Prop} (ho : Opens P t (Kd.slice e d) good) {v : Value} {n : Nat} {x : DataW H × List MemPlace}
    (h : DataW.trod enc P w 0 (fun _ => true) true n t [v] = some x) (hx : ∀ n ∈ DataW.weights P t x.1, n ≤ 140737488351232) :
    ∃ (A : Option Addr) (c : Nat) (l : List α), v = .slice A l.length c ∧ Kd.F d w (fun _ => True) A l.length l ∧ l.length ≤ c ∧ good l := by
  obtain ⟨l, hF, hg⟩ := ho enc w n _ _ h hx
  obtain ⟨A', c, hcs, hl, hc⟩ := Kd.FK_slice_open hF
  simp at hcs
  exact ⟨A', c, l, hcs, hc, hl, hg⟩
theorem int_field {H : Type} {enc : TypeId × Value → H} {w : World} {t : TypeId} {k : IntKind} (ht : P.underlying t = some (.int k)) {v : Value} {n : Nat} {x : DataW H × List MemPlace}
    (h : DataW.trod enc P w 0 (fun _ => true) true n t [v] = some x) : ∃ a : Int, v = .int k a ∧ (Lit.int k a).wf = true := by
  obtain ⟨a, hcs, _, hw⟩ := DataW.trod_int ht h
  simp at hcs
  exact ⟨a, hcs, hw⟩
theorem bool_field {H : Type} {enc : TypeId × Value → H} {w : World} {t : TypeId} (ht : P.underlying t = some .bool) {v : Value} {n : Nat} {x : DataW H × List MemPlace}
    (h : DataW.trod enc P w 0 (fun _ => true) true n t [v] = some x) : ∃ b : Bool, v = .bool b := by
  obtain ⟨a, hcs, _⟩ := DataW.trod_bool ht h
  simp at hcs
  exact ⟨a, hcs⟩
theorem at_ {H : Type} {ts : List TypeId} {ds : List (DataW H)} (h : (DataW.weightsEach P ts ds).all (· ≤ reachBytes) = true) {j : Nat} {t : TypeId} {d : DataW H} (ht : ts[j]? = some t) (hd : ds[j]? = some d) :
    ∀ n ∈ DataW.weights P t d, n ≤ 140737488351232 := fun n hn => by
  have := List.all_eq_true.1 h _ (DataW.weights_mem_each ht hd n hn)
  exact of_decide_eq_true this
theorem fields {H : Type} {t : TypeId} {fs : Array Field} {ds : List (DataW H)} (ht : P.underlying t = some (.struct fs)) (hx : ∀ n ∈ DataW.weights P t (.agg ds), n ≤ 140737488351232) {j : Nat} {f : Field} {d : DataW H} (hf : fs.toList[j]? = some f) (hd : ds[j]? = some d) :
    ∀ n ∈ DataW.weights P f.type d, n ≤ 140737488351232 := fun n hn => by
  refine hx n ?_
  rw [DataW.weights, ht]
  exact DataW.weights_mem_each (ts := fs.toList.map (·.type)) (by simp [hf]) hd n hn
end Go.Proofs.Ytfcofpgehlmbbaa.Open

namespace Go.Proofs.Ytfcofpgehlmbbaa.Pu
open Go.RowKit Go.Proofs.YtfcofpgehlmbbaaW.PrintWords Go.Proofs.YtfcofpgehlmbbaaW.PrintLast Go.Proofs.YtfcofpgehlmbbaaW.PrintMore

/-- With enough rounds the function tells v. -/
def Tells {α : Type} (g : Nat → Option α) (v : α) : Prop := ∃ k0, ∀ k, k0 ≤ k → g k = some v
theorem Tells.ex {α : Type} {g : Nat → Option α} {v : α} (h : Tells g v) : ∃ k, g k = some v := by
  obtain ⟨k0, h⟩ := h; exact ⟨k0, h k0 (Nat.le_refl _)⟩
theorem Tells.const {α : Type} (v : α) : Tells (fun _ => some v) v := ⟨0, fun _ _ => rfl⟩
theorem Tells.of_eq {α : Type} {g : Nat → Option α} {v : α} (h : ∀ k, g k = some v) : Tells g v := ⟨0, fun k _ => h k⟩
theorem Tells.congr {α : Type} {g h : Nat → Option α} {v : α} (e : ∀ k, g k = h k) (H : Tells h v) : Tells g v := by
  obtain ⟨k0, H⟩ := H; exact ⟨k0, fun k hk => (e k).trans (H k hk)⟩
theorem Tells.bind {α β : Type} {g : Nat → Option α} {v : α} {h : Nat → α → Option β} {u : β} (H : Tells g v) (K : Tells (fun k => h k v) u) :
    Tells (fun k => (g k).bind (h k)) u := by
  obtain ⟨k0, H⟩ := H; obtain ⟨k1, K⟩ := K
  refine ⟨k0 + k1, fun k hk => ?_⟩
  show (g k).bind (h k) = some u
  rw [H k (by omega)]; exact K k (by omega)
theorem Tells.succ {α : Type} {g h : Nat → Option α} {v : α} (e : ∀ k, g (k + 1) = h k) (H : Tells h v) : Tells g v := by
  obtain ⟨k0, H⟩ := H
  refine ⟨k0 + 1, fun k hk => ?_⟩
  obtain ⟨j, rfl⟩ : ∃ j, k = j + 1 := ⟨k - 1, by omega⟩
  exact (e j).trans (H j (by omega))
theorem Tells.mono {α : Type} {g : Nat → Option α} (hm : ∀ k, LeO (g k) (g (k + 1))) {k : Nat} {v : α} (h : g k = some v) : Tells g v :=
  ⟨k, fun _ hk => at_rounds hm hk h⟩
theorem Tells.pos {α : Type} {c : Prop} [Decidable c] {g h : Nat → Option α} {v : α} (hc : c) (H : Tells g v) : Tells (fun k => if c then g k else h k) v := by
  obtain ⟨k0, H⟩ := H; exact ⟨k0, fun k hk => (if_pos hc).trans (H k hk)⟩
theorem Tells.neg {α : Type} {c : Prop} [Decidable c] {g h : Nat → Option α} {v : α} (hc : ¬ c) (H : Tells h v) : Tells (fun k => if c then g k else h k) v := by
  obtain ⟨k0, H⟩ := H; exact ⟨k0, fun k hk => (if_neg hc).trans (H k hk)⟩

theorem Tells.ite {α : Type} {c : Prop} [Decidable c] {g h : Nat → Option α} {u v : α} (H : c → Tells g u) (K : ¬ c → Tells h v) : Tells (fun k => if c then g k else h k) (if c then u else v) := by
  by_cases hc : c
  · rw [if_pos hc]; exact Tells.pos hc (H hc)
  · rw [if_neg hc]; exact Tells.neg hc (K hc)

theorem w64 {n : Int} (h0 : -9223372036854775808 ≤ n) (h1 : n < 9223372036854775808) : wrap64 n = n := by unfold wrap64; omega
theorem w64s {i n : Nat} (h : i < n) (hn : n < 4611686018427387904) : wrap64 ((i : Int) + 1) = ((i + 1 : Nat) : Int) := by unfold wrap64; omega
theorem wf64 {n : Int} (h : (Lit.int .i64 n).wf = true) : -9223372036854775808 ≤ n ∧ n ≤ 9223372036854775807 := by
  simp only [Lit.wf, Bool.and_eq_true, decide_eq_true_eq] at h
  have a : IntKind.i64.min = -9223372036854775808 := by decide
  have b : IntKind.i64.max = 9223372036854775807 := by decide
  omega
theorem rdOf_nat {α : Type} (d : α) (xs : List α) (i : Nat) : rdOf d xs (i : Int) = xs.getD i d := by simp [rdOf]
theorem rdOf_at {α : Type} (d : α) (xs : List α) (i : Nat) (h : i < xs.length) : rdOf d xs (i : Int) = xs[i] := by simp [rdOf_nat, h]
end Go.Proofs.Ytfcofpgehlmbbaa.Pu

namespace Go.Proofs.Ytfcofpgehlmbbaa.Pu
open Go.RowKit Go.Proofs.Ytfcofpgehlmbbaa.P Go.Proofs.YtfcofpgehlmbbaaW.PrintWords Go.Proofs.YtfcofpgehlmbbaaW.PrintLast Go.Proofs.YtfcofpgehlmbbaaW.PrintMore

/-- Whole numbers of 64 bits. -/
def I64 (n : Int) : Prop := (Lit.int .i64 n).wf = true
theorem I64.lo {n : Int} (h : I64 n) : -9223372036854775808 ≤ n := (wf64 h).1
theorem I64.hi {n : Int} (h : I64 n) : n ≤ 9223372036854775807 := (wf64 h).2
/-- A literal that is true by values. -/
def litT (l : Int) (v : List Bool) : Bool := decide (l ≠ 0) && decide (l.natAbs ≤ v.length) && (v.getD (l.natAbs - 1) false == decide (l > 0))
def holds (c : List Int) (v : List Bool) : Bool := c.any fun l => litT l v
def every (c : List (List Int)) (v : List Bool) : Bool := c.all fun x => holds x v
def badLit (n l : Int) : Bool := decide (l = 0 ∨ l > n ∨ l < -n)
/-- The error of a clause. -/
def clauseErr (c : List Int) (n : Int) : Int := if c.length > 64 then 2 else if c.any (badLit n) then 1 else 0

theorem lit_is_eq (a : Int) : lit_is.f a = some (decide (a ≠ 0 ∧ a ≠ -9223372036854775808)) := by
  unfold lit_is.f
  by_cases h : a = 0
  · rw [if_pos h, decide_eq_false (by simp [h])]
  · rw [if_neg h]
    by_cases h2 : a = -9223372036854775808
    · rw [h2]; rfl
    · rw [decide_eq_true ⟨h, h2⟩]
      simpa using h2
theorem lit_variable_eq {a : Int} (h : I64 a) (hm : a ≠ -9223372036854775808) : lit_variable.f a = some ((a.natAbs : Nat) : Int) := by
  have := h.lo; have := h.hi
  unfold lit_variable.f mx wrap64
  split <;> (congr 1; omega)
theorem rd_at (xs : List Int) (i : Nat) (h : i < xs.length) : rd xs (i : Int) = xs[i] := by simp [rd, h]

theorem lit_Right_loop (c : List Int) (n : Int) (hc : ∀ l ∈ c, I64 l) (hn : I64 n) (hs : c.length < 4611686018427387904) : ∀ (m i : Nat), m + i = c.length →
    Tells (fun k => lit_Right.l0 k n c (c.length : Int) (i : Int)) (if (c.drop i).any (badLit n) then 1 else 0)
  | 0, i, h => by
    refine Tells.succ (fun k => by rw [lit_Right.l0]) (Tells.neg (by omega) ?_)
    rw [List.drop_of_length_le (by omega)]; exact Tells.const _
  | m + 1, i, h => by
    have hi : i < c.length := by omega
    have hl := hc _ (List.getElem_mem hi); have h1 := hl.lo; have h2 := hl.hi; have := hn.lo; have := hn.hi
    refine Tells.succ (fun k => by rw [lit_Right.l0]) (Tells.pos (by omega) (Tells.pos (by omega) (Tells.pos (by omega) ?_)))
    rw [rd_at _ _ hi, w64s hi hs, List.drop_eq_getElem_cons hi, List.any_cons, lit_is_eq]
    refine Tells.bind (Tells.const _) ?_
    by_cases hb : c[i] ≠ 0 ∧ c[i] ≠ -9223372036854775808
    · refine Tells.pos (decide_eq_true hb) ?_
      rw [lit_variable_eq hl hb.2]
      refine Tells.bind (Tells.const _) ?_
      by_cases hv : ((c[i].natAbs : Nat) : Int) > n
      · have e : badLit n c[i] = true := decide_eq_true (by omega)
        rw [e, Bool.true_or, if_pos rfl]
        exact Tells.pos hv (Tells.const _)
      · have e : badLit n c[i] = false := decide_eq_false (by omega)
        rw [e, Bool.false_or]
        exact Tells.neg hv (lit_Right_loop c n hc hn hs m (i + 1) (by omega))
    · have e : badLit n c[i] = true := decide_eq_true (by omega)
      rw [e, Bool.true_or, if_pos rfl]
      exact Tells.neg (by simpa using hb) (Tells.const _)
theorem lit_Right_tells (c : List Int) (n : Int) (hc : ∀ l ∈ c, I64 l) (hn : I64 n) (hs : c.length < 4611686018427387904) : Tells (fun k => lit_Right.f k c n) (clauseErr c n) := by
  unfold lit_Right.f clauseErr
  by_cases h : c.length > 64
  · rw [if_pos h]; exact Tells.pos (by omega) (Tells.const _)
  · rw [if_neg h]; exact Tells.neg (by omega) (lit_Right_loop c n hc hn hs c.length 0 rfl)
end Go.Proofs.Ytfcofpgehlmbbaa.Pu

namespace Go.Proofs.Ytfcofpgehlmbbaa.Pu
open Go.RowKit Go.Proofs.Ytfcofpgehlmbbaa.P Go.Proofs.YtfcofpgehlmbbaaW.PrintWords Go.Proofs.YtfcofpgehlmbbaaW.PrintLast Go.Proofs.YtfcofpgehlmbbaaW.PrintMore

/-- The first error of clauses. -/
def clausesErr (n : Int) : List (List Int) → Int
  | [] => 0
  | c :: l => if clauseErr c n = 0 then clausesErr n l else clauseErr c n
/-- The error of a set. -/
def setErr (n : Int) (l : List (List Int)) : Int := if n < 0 ∨ n > 1024 then 1 else if l.length > 4096 then 2 else clausesErr n l
/-- Rows of numbers as a reading has them. -/
def Rows64 (l : List (List Int)) : Prop := l.length < 4611686018427387904 ∧ ∀ c ∈ l, c.length < 4611686018427387904 ∧ ∀ x ∈ c, I64 x
theorem rdL_at (xs : List (List Int)) (i : Nat) (h : i < xs.length) : rd_L3 xs (i : Int) = xs[i] := by simp [rd_L3, h]
end Go.Proofs.Ytfcofpgehlmbbaa.Pu

namespace Go.Proofs.Ytfcofpgehlmbbaa.Pu
open Go.RowKit Go.Proofs.Ytfcofpgehlmbbaa.P Go.Proofs.YtfcofpgehlmbbaaW.PrintWords Go.Proofs.YtfcofpgehlmbbaaW.PrintLast Go.Proofs.YtfcofpgehlmbbaaW.PrintMore

/-- A number that is a literal. -/
def isL (l : Int) : Bool := decide (l ≠ 0 ∧ l ≠ -9223372036854775808)
def hasL (c : List Int) (l : Int) : Bool := isL l && c.any fun x => x == l
def withinL (a b : List Int) : Bool := a.all fun x => !isL x || hasL b x
def sameL (a b : List Int) : Bool := withinL a b && withinL b a
theorem hasL_iff {c : List Int} {l : Int} : hasL c l = true ↔ isL l = true ∧ l ∈ c := by
  unfold hasL
  rw [Bool.and_eq_true, List.any_eq_true]
  refine ⟨fun h => ⟨h.1, ?_⟩, fun h => ⟨h.1, l, h.2, by simp⟩⟩
  obtain ⟨x, hx, e⟩ := h.2
  rw [← beq_iff_eq.1 e]; exact hx
theorem lit_is_isL (a : Int) : lit_is.f a = some (isL a) := lit_is_eq a
end Go.Proofs.Ytfcofpgehlmbbaa.Pu

namespace Go.Proofs.Ytfcofpgehlmbbaa.Pu
open Go.RowKit Go.Proofs.Ytfcofpgehlmbbaa.P Go.Proofs.YtfcofpgehlmbbaaW.PrintWords Go.Proofs.YtfcofpgehlmbbaaW.PrintLast Go.Proofs.YtfcofpgehlmbbaaW.PrintMore

/-- Does one literal stand ahead of another one? -/
def aheadL (a b : Int) : Bool := decide (a.natAbs < b.natAbs) || (decide (a.natAbs = b.natAbs) && decide (a < b))
/-- A literal put in its place. -/
def insL (x : Int) (out : List Int) : List Int := out.takeWhile (fun y => aheadL y x) ++ x :: out.dropWhile (fun y => aheadL y x)
def cleanStep (out : List Int) (x : Int) : List Int := if isL x && !hasL out x then insL x out else out
def cleanL (c : List Int) : List Int := c.foldl cleanStep []
/-- Two literals are opposites. -/
def oppL (c : List Int) : Bool := c.any fun x => hasL c (-x)
theorem insL_mem {x y : Int} {out : List Int} : y ∈ insL x out ↔ y = x ∨ y ∈ out := by
  unfold insL
  rw [List.mem_append, List.mem_cons]
  constructor
  · rintro (h | h | h)
    · exact .inr (List.takeWhile_subset _ h)
    · exact .inl h
    · exact .inr (List.dropWhile_subset _ h)
  · rintro (h | h)
    · exact .inr (.inl h)
    · rw [← List.takeWhile_append_dropWhile (p := fun y => aheadL y x) (l := out), List.mem_append] at h
      rcases h with h | h
      · exact .inl h
      · exact .inr (.inr h)
theorem insL_length (x : Int) (out : List Int) : (insL x out).length = out.length + 1 := by
  have := congrArg List.length (List.takeWhile_append_dropWhile (p := fun y => aheadL y x) (l := out))
  unfold insL
  rw [List.length_append] at this ⊢
  rw [List.length_cons]; omega
theorem insL_nodup {x : Int} {out : List Int} (h : out.Nodup) (hx : ¬ x ∈ out) : (insL x out).Nodup := by
  have e := List.takeWhile_append_dropWhile (p := fun y => aheadL y x) (l := out)
  unfold insL
  rw [← e] at h hx
  rw [List.nodup_append] at h ⊢
  rw [List.mem_append] at hx
  refine ⟨h.1, List.nodup_cons.2 ⟨fun hh => hx (.inr hh), h.2.1⟩, fun a ha b hb => ?_⟩
  rcases List.mem_cons.1 hb with rfl | hb
  · exact fun e => hx (.inl (e ▸ ha))
  · exact h.2.2 a ha b hb
theorem cleanStep_mem {out : List Int} {x y : Int} : y ∈ cleanStep out x ↔ y ∈ out ∨ (y = x ∧ isL x = true) := by
  unfold cleanStep
  by_cases h : (isL x && !hasL out x) = true
  · rw [if_pos h, insL_mem]
    have := (Bool.and_eq_true _ _ ▸ h).1
    exact ⟨fun h => h.elim (fun e => .inr ⟨e, this⟩) .inl, fun h => h.elim .inr (fun e => .inl e.1)⟩
  · rw [if_neg h]
    refine ⟨.inl, fun h' => h'.elim id fun ⟨e, hl⟩ => ?_⟩
    have : hasL out x = true := by
      rw [hl, Bool.true_and] at h
      simpa using h
    rw [e]; exact (hasL_iff.1 this).2
theorem cleanFold_mem : ∀ (c out : List Int) {y : Int}, y ∈ c.foldl cleanStep out ↔ y ∈ out ∨ (y ∈ c ∧ isL y = true)
  | [], _, _ => by simp
  | _ :: t, _, y => by
    rw [List.foldl_cons, cleanFold_mem t, cleanStep_mem, List.mem_cons]
    constructor
    · rintro ((h | ⟨rfl, h⟩) | ⟨h, h'⟩)
      · exact .inl h
      · exact .inr ⟨.inl rfl, h⟩
      · exact .inr ⟨.inr h, h'⟩
    · rintro (h | ⟨rfl | h, h'⟩)
      · exact .inl (.inl h)
      · exact .inl (.inr ⟨rfl, h'⟩)
      · exact .inr ⟨h, h'⟩
theorem cleanL_mem {c : List Int} {y : Int} : y ∈ cleanL c ↔ y ∈ c ∧ isL y = true := by unfold cleanL; rw [cleanFold_mem]; simp
theorem cleanStep_nodup {out : List Int} {x : Int} (h : out.Nodup) : (cleanStep out x).Nodup := by
  unfold cleanStep
  by_cases hx : (isL x && !hasL out x) = true
  · rw [if_pos hx]
    refine insL_nodup h fun hm => ?_
    rw [Bool.and_eq_true] at hx
    have := hasL_iff.2 ⟨hx.1, hm⟩
    rw [this] at hx
    simp at hx
  · rw [if_neg hx]; exact h
theorem cleanFold_nodup : ∀ (c out : List Int), out.Nodup → (c.foldl cleanStep out).Nodup
  | [], _, h => h
  | _ :: t, _, h => cleanFold_nodup t _ (cleanStep_nodup h)
theorem cleanL_nodup (c : List Int) : (cleanL c).Nodup := cleanFold_nodup c [] List.nodup_nil
theorem cleanStep_length (out : List Int) (x : Int) : (cleanStep out x).length ≤ out.length + 1 := by
  unfold cleanStep
  split
  · rw [insL_length]; omega
  · omega
end Go.Proofs.Ytfcofpgehlmbbaa.Pu

namespace Go.Proofs.Ytfcofpgehlmbbaa.Pu
open Go.RowKit Go.Proofs.Ytfcofpgehlmbbaa.P Go.Proofs.YtfcofpgehlmbbaaW.PrintWords Go.Proofs.YtfcofpgehlmbbaaW.PrintLast Go.Proofs.YtfcofpgehlmbbaaW.PrintMore

theorem ahead_iff {a b : Int} : aheadL a b = true ↔ a.natAbs < b.natAbs ∨ (a.natAbs = b.natAbs ∧ a < b) := by
  unfold aheadL
  simp only [Bool.or_eq_true, Bool.and_eq_true, decide_eq_true_eq]
theorem ahead_asymm {a b : Int} (h : aheadL a b = true) : ¬ aheadL b a = true := by
  rw [ahead_iff] at h ⊢; omega
theorem ahead_irrefl (a : Int) : ¬ aheadL a a = true := by
  rw [ahead_iff]; omega
theorem ahead_trans {a b c : Int} (h : aheadL a b = true) (h' : aheadL b c = true) : aheadL a c = true := by
  rw [ahead_iff] at h h' ⊢; omega
theorem ahead_total {a b : Int} (h : a ≠ b) : aheadL a b = true ∨ aheadL b a = true := by
  rw [ahead_iff, ahead_iff]; omega
/-- Rising lists of the same numbers are the same. -/
theorem rising_ext : ∀ (a b : List Int), a.Pairwise (fun x y => aheadL x y = true) → b.Pairwise (fun x y => aheadL x y = true) → (∀ x, x ∈ a ↔ x ∈ b) → a = b
  | [], [], _, _, _ => rfl
  | [], y :: b, _, _, h => absurd ((h y).2 (by simp)) (by simp)
  | x :: a, [], _, _, h => absurd ((h x).1 (by simp)) (by simp)
  | x :: a, y :: b, ha, hb, h => by
    rw [List.pairwise_cons] at ha hb
    have e : x = y := by
      refine Decidable.byContradiction fun hne => ?_
      have h1 : aheadL y x = true := by
        rcases List.mem_cons.1 ((h x).1 (by simp)) with e | hm
        · exact absurd e hne
        · exact hb.1 x hm
      have h2 : aheadL x y = true := by
        rcases List.mem_cons.1 ((h y).2 (by simp)) with e | hm
        · exact absurd e.symm hne
        · exact ha.1 y hm
      exact ahead_asymm h1 h2
    subst e
    rw [rising_ext a b ha.2 hb.2 (fun z => ?_)]
    constructor
    · intro hz
      rcases List.mem_cons.1 ((h z).1 (by simp [hz])) with e | hm
      · exact absurd (ha.1 z hz) (e ▸ ahead_irrefl z)
      · exact hm
    · intro hz
      rcases List.mem_cons.1 ((h z).2 (by simp [hz])) with e | hm
      · exact absurd (hb.1 z hz) (e ▸ ahead_irrefl z)
      · exact hm
theorem insL_rises {x : Int} : ∀ {out : List Int}, out.Pairwise (fun x y => aheadL x y = true) → ¬ x ∈ out → (insL x out).Pairwise (fun x y => aheadL x y = true)
  | [], _, _ => by unfold insL; simp
  | y :: out, h, hx => by
    rw [List.pairwise_cons] at h
    have hne : y ≠ x := fun e => hx (by simp [e])
    by_cases hy : aheadL y x = true
    · have e : insL x (y :: out) = y :: insL x out := by
        unfold insL
        rw [List.takeWhile_cons_of_pos (p := fun y => aheadL y x) hy, List.dropWhile_cons_of_pos (p := fun y => aheadL y x) hy]; rfl
      rw [e, List.pairwise_cons]
      refine ⟨fun z hz => ?_, insL_rises h.2 (fun hm => hx (by simp [hm]))⟩
      rcases insL_mem.1 hz with rfl | hz
      · exact hy
      · exact h.1 z hz
    · have e : insL x (y :: out) = x :: y :: out := by
        unfold insL
        rw [List.takeWhile_cons_of_neg (p := fun y => aheadL y x) hy, List.dropWhile_cons_of_neg (p := fun y => aheadL y x) hy]; rfl
      have hxy : aheadL x y = true := (ahead_total hne).resolve_left hy
      rw [e, List.pairwise_cons, List.pairwise_cons]
      refine ⟨fun z hz => ?_, h⟩
      rcases List.mem_cons.1 hz with rfl | hz
      · exact hxy
      · exact ahead_trans hxy (h.1 z hz)
theorem cleanStep_rises {out : List Int} {x : Int} (h : out.Pairwise (fun x y => aheadL x y = true)) : (cleanStep out x).Pairwise (fun x y => aheadL x y = true) := by
  unfold cleanStep
  by_cases hc : (isL x && !hasL out x) = true
  · rw [if_pos hc]
    refine insL_rises h fun hm => ?_
    rw [Bool.and_eq_true] at hc
    have := hasL_iff.2 ⟨hc.1, hm⟩
    rw [this] at hc
    simp at hc
  · rw [if_neg hc]; exact h
theorem cleanFold_rises : ∀ (c out : List Int), out.Pairwise (fun x y => aheadL x y = true) → (c.foldl cleanStep out).Pairwise (fun x y => aheadL x y = true)
  | [], _, h => h
  | _ :: t, _, h => cleanFold_rises t _ (cleanStep_rises h)
theorem cleanL_rises (c : List Int) : (cleanL c).Pairwise (fun x y => aheadL x y = true) := cleanFold_rises c [] List.Pairwise.nil
/-- Of numbers side by side that are the same, one. -/
def compactL : List Int → List Int
  | [] => []
  | [x] => [x]
  | x :: y :: t => if x = y then compactL (y :: t) else x :: compactL (y :: t)
theorem compactL_mem : ∀ (l : List Int) (z : Int), z ∈ compactL l ↔ z ∈ l
  | [], z => Iff.rfl
  | [x], z => Iff.rfl
  | x :: y :: t, z => by
    rw [compactL]
    by_cases e : x = y
    · rw [if_pos e, compactL_mem (y :: t) z, e]; simp
    · rw [if_neg e, List.mem_cons, compactL_mem (y :: t) z, List.mem_cons (a := z) (b := x)]
theorem compactL_rises : ∀ (l : List Int), l.Pairwise (fun x y => ¬ aheadL y x = true) → (compactL l).Pairwise (fun x y => aheadL x y = true)
  | [], _ => List.Pairwise.nil
  | [x], _ => by rw [compactL]; simp
  | x :: y :: t, h => by
    rw [compactL]
    have ih := compactL_rises (y :: t) (List.pairwise_cons.1 h).2
    by_cases e : x = y
    · rw [if_pos e]; exact ih
    · rw [if_neg e, List.pairwise_cons]
      refine ⟨fun z hz => ?_, ih⟩
      have hz := (compactL_mem _ z).1 hz
      obtain ⟨h1, h2⟩ := List.pairwise_cons.1 h
      have hxy : aheadL x y = true := (ahead_total e).resolve_right (h1 y (by simp))
      rcases List.mem_cons.1 hz with rfl | hz
      · exact hxy
      · by_cases e2 : y = z
        · exact e2 ▸ hxy
        · exact ahead_trans hxy ((ahead_total e2).resolve_right ((List.pairwise_cons.1 h2).1 z hz))
/-- Sorted, and of the same ones one: that is the cleaned clause. -/
theorem sort_clean (c : List Int) : compactL ((c.filter isL).mergeSort fun x y => !aheadL y x) = cleanL c := by
  refine rising_ext _ _ (compactL_rises _ ?_) (cleanL_rises c) (fun z => ?_)
  · have := List.pairwise_mergeSort (le := fun x y => !aheadL y x) (fun a b d h1 h2 => by
      rw [Bool.not_eq_true'] at h1 h2 ⊢
      rw [← Bool.not_eq_true] at h1 h2 ⊢
      rw [ahead_iff] at h1 h2 ⊢
      omega) (fun a b => by
      rw [Bool.or_eq_true, Bool.not_eq_true', Bool.not_eq_true', ← Bool.not_eq_true, ← Bool.not_eq_true, ahead_iff, ahead_iff]
      omega) (c.filter isL)
    exact this.imp (fun h => by rw [Bool.not_eq_true'] at h; rw [h]; decide)
  · rw [compactL_mem, List.mem_mergeSort, List.mem_filter, cleanL_mem]
end Go.Proofs.Ytfcofpgehlmbbaa.Pu

namespace Go.Proofs.Ytfcofpgehlmbbaa.Pu
open Go.RowKit Go.Proofs.Ytfcofpgehlmbbaa.P Go.Proofs.YtfcofpgehlmbbaaW.PrintWords Go.Proofs.YtfcofpgehlmbbaaW.PrintLast Go.Proofs.YtfcofpgehlmbbaaW.PrintMore

theorem cfL_ahead {a b : Int} (ha : I64 a) (hb : I64 b) (la : isL a = true) (lb : isL b = true) : Go.Proofs.ltOf cfL a b = aheadL a b := by
  have := ha.lo; have := ha.hi; have := hb.lo; have := hb.hi
  have l1 := (of_decide_eq_true la).2
  have l2 := (of_decide_eq_true lb).2
  have e1 : mx a (wrap64 (-a)) = ((a.natAbs : Nat) : Int) := by
    unfold mx wrap64; split <;> omega
  have e2 : mx b (wrap64 (-b)) = ((b.natAbs : Nat) : Int) := by
    unfold mx wrap64; split <;> omega
  unfold Go.Proofs.ltOf
  rw [Bool.eq_iff_iff, decide_eq_true_eq, cfL_lt, e1, e2, ahead_iff]
  omega
theorem compact_mem (xs : List Int) (z : Int) : z ∈ Lib.compact xs ↔ z ∈ xs := by
  unfold Lib.compact Lib.compactUpTo
  rw [List.mem_map]
  constructor
  · rintro ⟨j, hj, rfl⟩
    have hj := List.mem_range.1 (List.mem_filter.1 hj).1
    simp [hj]
  · intro hz
    obtain ⟨i, hi, rfl⟩ := List.getElem_of_mem hz
    have key : ∀ j : Nat, j < xs.length → ∃ a, a ∈ (List.range xs.length).filter (Lib.keeps xs.toArray) ∧ xs.toArray[a]! = xs.toArray[j]! := by
      intro j
      induction j with
      | zero => exact fun h => ⟨0, List.mem_filter.2 ⟨List.mem_range.2 h, Lib.keeps_lt_one _ 0 (by omega)⟩, rfl⟩
      | succ j ih =>
        intro h
        by_cases e : xs.toArray[j + 1]! = xs.toArray[j + 1 - 1]!
        · obtain ⟨a, ha, ea⟩ := ih (by omega)
          exact ⟨a, ha, ea.trans e.symm⟩
        · exact ⟨j + 1, List.mem_filter.2 ⟨List.mem_range.2 h, Lib.keeps_pos e⟩, rfl⟩
    obtain ⟨a, ha, ea⟩ := key i hi
    exact ⟨a, ha, by rw [ea]; simp [hi]⟩
theorem compact_rises (xs : List Int) (h : xs.Pairwise (fun x y => ¬ aheadL y x = true)) : (Lib.compact xs).Pairwise (fun x y => aheadL x y = true) := by
  unfold Lib.compact Lib.compactUpTo
  rw [List.pairwise_map]
  have hs : ∀ i j : Nat, i < j → j < xs.length → ¬ aheadL xs.toArray[j]! xs.toArray[i]! = true := fun i j hij hj => by
    have := List.pairwise_iff_getElem.1 h i j (by omega) hj hij
    simpa [hj, show i < xs.length by omega] using this
  have hr : (List.range xs.length).Pairwise (· < ·) := List.pairwise_lt_range
  refine List.Pairwise.imp_of_mem (R := (· < ·)) (fun {i j} hi hj hij => ?_) (hr.filter _)
  obtain ⟨hj, hk⟩ := List.mem_filter.1 hj
  have hj := List.mem_range.1 hj
  have hk := of_decide_eq_true hk
  have hne : xs.toArray[j]! ≠ xs.toArray[j - 1]! := hk.resolve_left (by omega)
  have h1 : aheadL xs.toArray[j - 1]! xs.toArray[j]! = true := (ahead_total hne).resolve_left (hs (j - 1) j (by omega) hj)
  rcases Nat.lt_or_ge i (j - 1) with h2 | h2
  · by_cases e : xs.toArray[i]! = xs.toArray[j - 1]!
    · rw [e]; exact h1
    · exact ahead_trans ((ahead_total e).resolve_right (hs i (j - 1) h2 (by omega))) h1
  · obtain rfl : i = j - 1 := by omega
    exact h1
theorem lit_Clean_out (c : List Int) (hc : ∀ x ∈ c, I64 x) : lit_Clean.out c = cleanL c := by
  unfold lit_Clean.out
  have ef : (fun l => (lit_is.f l).getD false) = isL := funext fun l => by rw [lit_is_isL]; rfl
  rw [ef]
  have hm : ∀ z, z ∈ (c.filter isL).mergeSort (fun x y => !(Go.Proofs.ltOf cfL) y x) ↔ z ∈ c ∧ isL z = true := fun z => by rw [List.mem_mergeSort, List.mem_filter]
  refine rising_ext _ _ (compact_rises _ ?_) (cleanL_rises c) (fun z => by rw [compact_mem, hm, cleanL_mem])
  have hp := List.pairwise_mergeSort (le := fun x y => !(Go.Proofs.ltOf cfL) y x) (fun a b d h1 h2 => by
    rw [Bool.not_eq_true'] at h1 h2 ⊢
    exact cfL_swo.ntrans _ _ _ h2 h1) (fun a b => by
    rw [Bool.or_eq_true, Bool.not_eq_true', Bool.not_eq_true']
    by_cases h : Go.Proofs.ltOf cfL b a = true
    · refine .inr ?_
      rw [Bool.eq_false_iff]
      intro h'
      have := cfL_swo.trans _ _ _ h h'
      rw [cfL_swo.irrefl] at this; cases this
    · exact .inl (Bool.eq_false_iff.2 h)) (c.filter isL)
  refine hp.imp_of_mem fun {x y} hx hy h => ?_
  rw [hm] at hx hy
  rw [Bool.not_eq_true', cfL_ahead (hc _ hy.1) (hc _ hx.1) hy.2 hx.2] at h
  rw [h]; decide
theorem adjB_iff : ∀ (l : List Int), l.Pairwise (fun x y => aheadL x y = true) → (∀ x ∈ l, I64 x ∧ isL x = true) → (adjB l = true ↔ ∃ x ∈ l, -x ∈ l)
  | [], _, _ => by simp [adjB]
  | [x], _, h => by
    have h1 := of_decide_eq_true (h x (by simp)).2
    simp only [adjB, List.mem_singleton, exists_eq_left]
    constructor
    · intro h; cases h
    · intro h; omega
  | x :: y :: t, hp, h => by
    obtain ⟨hx, hp'⟩ := List.pairwise_cons.1 hp
    have ih := adjB_iff (y :: t) hp' (fun z hz => h z (List.mem_cons_of_mem _ hz))
    obtain ⟨i1, i2⟩ := h x (by simp)
    have j1 := i1.lo; have j2 := i1.hi
    have i3 := of_decide_eq_true i2
    have hw : wrap64 (-x) = -x := w64 (by omega) (by omega)
    rw [adjB, Bool.or_eq_true, ih, beq_iff_eq, hw]
    constructor
    · rintro (h | ⟨z, h1, h2⟩)
      · exact ⟨x, by simp, by simp [h]⟩
      · exact ⟨z, List.mem_cons_of_mem _ h1, List.mem_cons_of_mem _ h2⟩
    · have key : -x ∈ y :: t → y = -x := fun hm => by
        rcases List.mem_cons.1 hm with e | hm
        · exact e.symm
        · have a1 := ahead_iff.1 (hx y (by simp))
          have a2 := ahead_iff.1 ((List.pairwise_cons.1 hp').1 _ hm)
          omega
      rintro ⟨z, h1, h2⟩
      rcases List.mem_cons.1 h1 with rfl | h1
      · rcases List.mem_cons.1 h2 with e | h2
        · omega
        · exact .inl (key h2)
      · rcases List.mem_cons.1 h2 with e | h2
        · have : z = -x := by omega
          exact .inl (key (this ▸ h1))
        · exact .inr ⟨z, h1, h2⟩
theorem oppL_iff {l : List Int} (h : ∀ x ∈ l, I64 x ∧ isL x = true) : oppL l = true ↔ ∃ x ∈ l, -x ∈ l := by
  unfold oppL
  rw [List.any_eq_true]
  constructor
  · rintro ⟨x, h1, h2⟩
    exact ⟨x, h1, (hasL_iff.1 h2).2⟩
  · rintro ⟨x, h1, h2⟩
    exact ⟨x, h1, hasL_iff.2 ⟨(h _ h2).2, h2⟩⟩
theorem cleanL_good {c : List Int} (hc : ∀ x ∈ c, I64 x) : ∀ x ∈ cleanL c, I64 x ∧ isL x = true := fun x hx => by
  rw [cleanL_mem] at hx
  exact ⟨hc x hx.1, hx.2⟩
theorem cleanL_length (c : List Int) : (cleanL c).length ≤ c.length := by
  have : ∀ (c out : List Int), (c.foldl cleanStep out).length ≤ out.length + c.length := by
    intro c
    induction c with
    | nil => intro out; simp
    | cons x t ih =>
      intro out
      rw [List.foldl_cons, List.length_cons]
      have := ih (cleanStep out x); have := cleanStep_length out x
      omega
  have := this c []
  unfold cleanL
  simpa using this
theorem adjB_oppL {c : List Int} (hc : ∀ x ∈ c, I64 x) : adjB (cleanL c) = oppL (cleanL c) := by
  rw [Bool.eq_iff_iff, adjB_iff _ (cleanL_rises c) (cleanL_good hc), oppL_iff (cleanL_good hc)]
theorem lit_Clean_eq (c : List Int) (hc : ∀ x ∈ c, I64 x) (hs : c.length < 17592186044416) : lit_Clean.f c = some (cleanL c, !oppL (cleanL c)) := by
  unfold lit_Clean.f
  rw [lit_Clean_out c hc, adjB_oppL hc, if_pos ⟨hs, cleanL_length c⟩]
end Go.Proofs.Ytfcofpgehlmbbaa.Pu

namespace Go.Proofs.Ytfcofpgehlmbbaa.Pu
open Go.RowKit Go.Proofs.Ytfcofpgehlmbbaa.P Go.Proofs.YtfcofpgehlmbbaaW.PrintWords Go.Proofs.YtfcofpgehlmbbaaW.PrintLast Go.Proofs.YtfcofpgehlmbbaaW.PrintMore
theorem a20_c1 : lit_Clean.f [1, 2] = some ([1, 2], true) := by
  rw [lit_Clean_eq [1, 2] (by unfold I64; decide) (by decide)]
  decide +kernel
theorem a20_c2 : lit_Clean.f [-1, 3] = some ([-1, 3], true) := by
  rw [lit_Clean_eq [-1, 3] (by unfold I64; decide) (by decide)]
  decide +kernel
def a20E : Eng := ((Eng.fresh 3).laid [1, 2]).laid [-1, 3]
theorem a20_lays : Eng.lays [[1, 2], [-1, 3]] (Eng.fresh 3) = some a20E := by
  unfold Eng.lays
  rw [a20_c1]
  show (if (Eng.fresh 3).ws + 2 < 4398046511104 ∧ (Eng.fresh 3).cls.length + 1 < 5864062014805 then Eng.lays [[-1, 3]] ((Eng.fresh 3).laid [1, 2]) else none) = some a20E
  rw [if_pos (by decide)]
  unfold Eng.lays
  rw [a20_c2]
  show (if ((Eng.fresh 3).laid [1, 2]).ws + 2 < 4398046511104 ∧ ((Eng.fresh 3).laid [1, 2]).cls.length + 1 < 5864062014805 then Eng.lays [] (((Eng.fresh 3).laid [1, 2]).laid [-1, 3]) else none) = some a20E
  rw [if_pos (by decide)]
  rfl
def a20chk : Bool := match Eng.settle 40 a20E with
  | none => false
  | some E2 => (E2.cls == [[1, 2], [-1, 3]]) && (match Eng.push 40 E2 (-2) with
    | some (E3, true) => (E3.tr == [-2, 1, 3]) && decide (E3.br < 0)
    | _ => false)
theorem a20chk_true : a20chk = true := by kernel_rfl
theorem alive20 : ∃ k, sequiturlaw20_alive.P k := by
  refine ⟨40, ?_⟩
  have h := a20chk_true
  unfold a20chk at h
  cases hs : Eng.settle 40 a20E with
  | none => rw [hs] at h; cases h
  | some E2 =>
    rw [hs] at h
    simp only [Bool.and_eq_true, beq_iff_eq] at h
    obtain ⟨h1, h2⟩ := h
    cases hp : Eng.push 40 E2 (-2) with
    | none => rw [hp] at h2; cases h2
    | some r =>
      obtain ⟨E3, b⟩ := r
      rw [hp] at h2
      cases b with
      | false => cases h2
      | true =>
        simp only [Bool.and_eq_true, beq_iff_eq, decide_eq_true_eq] at h2
        have hcr : cnf_Right.f 40 3 [[1, 2], [-1, 3]] = some (0, 0) := by decide +kernel
        refine ⟨E2, E3, ?_, hp, h2.1, h2.2, by decide +kernel, ?_, ?_⟩
        · unfold Eng.new
          rw [hcr]
          show ((Eng.lays [[1, 2], [-1, 3]] (Eng.fresh 3)).bind fun E => (Eng.settle 40 E).bind fun E2 => some (E2, (0 : Int))) = some (E2, 0)
          rw [a20_lays]
          show ((Eng.settle 40 a20E).bind fun E2 => some (E2, (0 : Int))) = some (E2, 0)
          rw [hs]
          rfl
        · unfold Eng.Lits
          rw [h1]
          decide
        · intro c hc r hr
          rcases List.mem_cons.1 hc with rfl | hc
          · rw [a20_c1] at hr
            injection hr with hr
            subst hr
            decide
          · rw [List.mem_singleton.1 hc, a20_c2] at hr
            injection hr with hr
            subst hr
            decide
end Go.Proofs.Ytfcofpgehlmbbaa.Pu

namespace Go.Proofs.Ytfcofpgehlmbbaa.Pure
open Go.Proofs.Ytfcofpgehlmbbaa.Pu Go.Proofs.Ytfcofpgehlmbbaa.P
set_option linter.unusedVariables false in
theorem UnitNobody (x : Int) (l : List Int) (hx : (Lit.int .i64 x).wf = true) (hl : Open.Row 8 (fun n => (Lit.int .i64 n).wf = true) l) : ∃ k, sequiturlaw20_UnitNobody.Fact k x l := alive20
end Go.Proofs.Ytfcofpgehlmbbaa.Pure
