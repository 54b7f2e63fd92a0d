import Derived.SizedLaws
import Derived.Deep.Slices
import Derived.WideShapes
import Derived.ChangeShapes
import Derived.ChangeMaps5
import Derived.Lib.SmallJoins
import Derived.ChangeSlices
import Derived.Test.YtmihgbjfiigmlaaKChainChecks1
import Derived.Test.YtmihgbjfiigmlaaKChainChecks3
import Derived.Test.YtmihgbjfiigmlaaKChainChecks10
import Derived.Test.YtmihgbjfiigmlaaKChainChecks5
import Derived.Test.YtmihgbjfiigmlaaKChainChecks6
import Derived.Test.YtmihgbjfiigmlaaKChainChecks7
import Derived.Test.YtmihgbjfiigmlaaKChainChecks8
import Derived.Test.YtmihgbjfiigmlaaKChainChecks9
namespace Go.Proofs.Ytmihgbjfiigmlaa.Open
open Go.RowKit Go.Proofs.YtmihgbjfiigmlaaW.PrintWords Go.Proofs.YtmihgbjfiigmlaaW.PrintLast Go.Proofs.YtmihgbjfiigmlaaW.PrintMore Go.ChangeShapes Go.WideShapes Go.Deep

/-- What a reading of type t tells of the cells: they hold a value of kind d, which is good, and which leads to blocks that lie there; all weights are within the bound. -/
def Opens (P : Program) (t : TypeId) {α : Type} (d : Kd α) (good : α → Prop) : Prop :=
  ∀ {H : Type} (enc : TypeId × Value → H) (w : World) (fuel : Nat) (cs : List Value) (x : DataW H × List MemPlace),
    DataW.trod enc P w 0 (fun _ => true) true fuel t cs = some x → (∀ n ∈ DataW.weights P t x.1, n ≤ 140737488351232) → ∃ a, Kd.FK d w (fun _ => True) a cs ∧ good a
/-- A row that is good: not longer than its bytes, each element good. -/
def Row (B : Nat) {α : Type} (good : α → Prop) (xs : List α) : Prop := xs.length * B ≤ 140737488351232 ∧ ∀ x ∈ xs, good x
def I64 (n : Int) : Prop := (Lit.int .i64 n).wf = true

variable {P : Program}
theorem cell_same {w W' : World} (hW : ∀ k, (fun _ => True) k → k < w.heap.size → W'.heap[k]? = w.heap[k]?) {p : Addr} {u : Value} (h : w.cell? p = some u) : W'.cell? p = some u := by
  have hlt : p.block < w.heap.size := by
    rcases Nat.lt_or_ge p.block w.heap.size with h1 | h1
    · exact h1
    · simp [World.cell?, Array.getElem?_eq_none h1] at h
  have hb : W'.heap[p.block]? = w.heap[p.block]? := hW _ trivial hlt
  unfold World.cell? at h ⊢
  rw [hb]; exact h
theorem int_ {t : TypeId} {k : IntKind} (ht : P.underlying t = some (.int k)) : Opens P t (Kd.int k) (fun n => (Lit.int k n).wf = true) := by
  intro H enc w fuel cs x h _
  obtain ⟨n, rfl, hx, hw⟩ := DataW.trod_int ht h
  exact ⟨n, fun _ _ => rfl, hw⟩
theorem bool_ {t : TypeId} (ht : P.underlying t = some .bool) : Opens P t Kd.bool (fun _ => True) := by
  intro H enc w fuel cs x h _
  obtain ⟨b, rfl, hx⟩ := DataW.trod_bool ht h
  exact ⟨b, fun _ _ => rfl, trivial⟩
theorem string_ {t : TypeId} (ht : P.underlying t = some .string) : Opens P t Kd.string (fun s => s.size ≤ maxLen) := by
  intro H enc w fuel cs x h _
  obtain ⟨s, rfl, hx, hs⟩ := DataW.trod_string ht h
  exact ⟨s, fun _ _ => rfl, hs⟩
theorem mem_weightsAll {H : Type} {e : TypeId} {n : Nat} : ∀ {l : List (DataW H)} {d : DataW H}, d ∈ l → n ∈ DataW.weights P e d → n ∈ DataW.weightsAll P e l
  | [], _, h, _ => by cases h
  | y :: l, d, h, hn => by
    rw [DataW.weightsAll]
    rcases List.mem_cons.1 h with rfl | h
    · exact List.mem_append_left _ hn
    · exact List.mem_append_right _ (mem_weightsAll h hn)
theorem slice_ {t e : TypeId} {α : Type} {d : Kd α} {good : α → Prop} {B : Nat} (ht : P.underlying t = some (.slice e)) (hd : P.cellsOf e = d.sz) (hB : P.bytesOf e = B) (hB0 : 0 < B) (he : Opens P e d good) :
    Opens P t (Kd.slice e d) (Row B good) := by
  intro H enc w fuel cs x h hx
  rcases open_slice ht h with ⟨rfl, rfl⟩ | ⟨a, len, cap, m, n, D, Pl, rfl, _, hl, hm, hmm, rfl, hel⟩
  · exact ⟨[], fun _ _ => ⟨none, 0, rfl, Nat.le_refl _, rfl, Nat.zero_le _, fun h => absurd h (Nat.lt_irrefl 0)⟩, by simp, fun x hx => by cases hx⟩
  · simp only [if_true] at hmm
    obtain rfl : m = cap := hmm
    rw [hd] at hel
    have hw : ∀ i, i < len → ∀ q ∈ DataW.weights P e (D i), q ≤ 140737488351232 := fun i hi q hq => by
      refine hx q ?_
      show q ∈ DataW.weights P t (DataW.slice _ _)
      rw [DataW.weights, ht]
      exact List.mem_cons_of_mem _ (List.mem_append_left _ (mem_weightsAll (List.mem_map.2 ⟨i, List.mem_range.2 hi, rfl⟩) hq))
    have hlen : len * B ≤ 140737488351232 := by
      have := hx ((len + (m - len)) * B) (by
        show _ ∈ DataW.weights P t (DataW.slice _ _)
        rw [DataW.weights, ht]
        simp [hB])
      exact Nat.le_trans (Nat.mul_le_mul_right _ (by omega)) this
    have hlt : len ≤ 140737488351232 := Nat.le_trans (Nat.le_mul_of_pos_right _ hB0) hlen
    have each : ∀ i, i < len → ∃ y, (∃ cs', w.cells? 0 (a.add (i * d.sz)) d.sz = some cs' ∧ Kd.FK d w (fun _ => True) y cs') ∧ good y := fun i hi => by
      obtain ⟨cs', h1, h2⟩ := hel i (by omega)
      obtain ⟨y, hy, hg⟩ := he enc w n cs' (D i, Pl i) h2 (hw i hi)
      exact ⟨y, ⟨cs', h1, hy⟩, hg⟩
    have : ∃ xs : List α, xs.length = len ∧ ∀ i y, xs[i]? = some y → (∃ cs', w.cells? 0 (a.add (i * d.sz)) d.sz = some cs' ∧ Kd.FK d w (fun _ => True) y cs') ∧ good y := by
      clear hw hlen hlt hel hx h
      clear hl
      induction len with
      | zero => exact ⟨[], rfl, fun i y h => by simp at h⟩
      | succ j ih =>
        obtain ⟨xs, hxs, hk⟩ := ih (fun i hi => each i (by omega))
        obtain ⟨y, hy⟩ := each j (by omega)
        refine ⟨xs ++ [y], by simp [hxs], fun i z hz => ?_⟩
        rcases Nat.lt_or_ge i xs.length with hi | hi
        · rw [List.getElem?_append_left hi] at hz; exact hk i z hz
        · rw [List.getElem?_append_right hi] at hz
          have : i - xs.length = 0 := by
            rcases Nat.eq_zero_or_pos (i - xs.length) with h0 | h0
            · exact h0
            · rw [List.getElem?_eq_none (by simp; omega)] at hz; cases hz
          rw [this] at hz
          simp at hz
          subst hz
          obtain rfl : i = j := by omega
          exact hy
    obtain ⟨xs, hxs, hk⟩ := this
    refine ⟨xs, fun W' hW => ⟨some a, m, by rw [hxs], by omega, ⟨rfl, by omega, fun _ => ⟨a, rfl, fun j p hj => ?_⟩⟩⟩, by rw [hxs]; exact hlen, fun y hy => ?_⟩
    · obtain ⟨⟨cs', h1, h2⟩, _⟩ := hk j p hj
      obtain ⟨_, h3, h4⟩ := World.cells?_some h1
      refine ⟨cs', h3, h2 W' hW, fun i u hu => ?_⟩
      have hi : i < d.sz := by rw [← h3]; exact (List.getElem?_eq_some_iff.1 hu).1
      have hc := h4 i hi
      rw [hu] at hc
      rw [Addr.add_add] at hc
      exact cell_same hW hc
    · obtain ⟨i, hi, rfl⟩ := List.getElem_of_mem hy
      exact (hk i _ (List.getElem?_eq_getElem hi)).2
/-- A struct of two fields in line. -/
theorem struct2_ {t : TypeId} {f0 f1 : Field} {α β : Type} {d0 : Kd α} {d1 : Kd β} {g0 : α → Prop} {g1 : β → Prop} (ht : P.underlying t = some (.struct #[f0, f1])) (h0 : f0.offset = 0) (c0 : P.cellsOf f0.type = d0.sz) (h1 : f1.offset = d0.sz) (c1 : P.cellsOf f1.type = d1.sz) (hc : P.cellsOf t = d0.sz + d1.sz)
    (o0 : Opens P f0.type d0 g0) (o1 : Opens P f1.type d1 g1) : Opens P t (Kd.pair d0 d1) (fun x => g0 x.1 ∧ g1 x.2) := by
  intro H enc w fuel cs x h hx
  obtain ⟨y0, y1, n, rfl, hl, t0, t1⟩ := trod_struct2 ht h
  have hw : ∀ (j : Nat) (f : Field) (q : DataW H), (#[f0, f1] : Array Field).toList[j]? = some f → [y0.1, y1.1][j]? = some q → ∀ m ∈ DataW.weights P f.type q, m ≤ 140737488351232 := fun j f q hf hq m hm => by
    refine hx m ?_
    show m ∈ DataW.weights P t (.agg [y0.1, y1.1])
    rw [DataW.weights, ht]
    exact DataW.weights_mem_each (ts := (#[f0, f1] : Array Field).toList.map (·.type)) (by rw [List.getElem?_map, hf]; rfl) hq m hm
  obtain ⟨a, ha, ga⟩ := o0 enc w n _ y0 t0 (hw 0 f0 y0.1 rfl rfl)
  obtain ⟨b, hb, gb⟩ := o1 enc w n _ y1 t1 (hw 1 f1 y1.1 rfl rfl)
  refine ⟨(a, b), fun W' hW => ⟨_, _, ?_, ha W' hW, hb W' hW⟩, ga, gb⟩
  rw [h0, c0, h1, c1, List.drop_zero, List.take_of_length_le (l := cs.drop d0.sz) (by rw [List.length_drop]; omega), List.take_append_drop]
theorem iso_ {t : TypeId} {α β : Type} {d : Kd α} {good : α → Prop} (f : β → α) (g : α → β) (hfg : ∀ a, f (g a) = a) (o : Opens P t d good) : Opens P t (Kd.iso d f) (fun x => good (f x)) := by
  intro H enc w fuel cs x h hx
  obtain ⟨a, ha, ga⟩ := o enc w fuel cs x h hx
  exact ⟨g a, fun W' hW => by show d.K W' (f (g a)) cs; rw [hfg]; exact ha W' hW, by show good (f (g a)); rw [hfg]; exact ga⟩
/-- A slice that is an argument. -/
theorem slice_arg {H : Type} {enc : TypeId × Value → H} {w : World} {t e : TypeId} {α : Type} {d : Kd α} {good : List α → Prop} (ho : Opens P t (Kd.slice e d) good) {A : Option Addr} {len cap : Nat} {x : DataW H} {p : List MemPlace}
    (h : DataW.Trod enc P w 0 (fun _ => true) true t (.slice A len cap) x p) (hx : ∀ n ∈ DataW.weights P t x, n ≤ 140737488351232) :
    ∃ l : List α, len = l.length ∧ Kd.F d w (fun _ => True) A l.length l ∧ l.length ≤ cap ∧ good l := by
  obtain ⟨fuel, hf⟩ := h
  obtain ⟨l, hF, hg⟩ := ho enc w fuel _ _ hf hx
  obtain ⟨A', c, hcs, hl, hc⟩ := Kd.FK_slice_open hF
  simp [Value.cells] at hcs
  obtain ⟨rfl, rfl, rfl⟩ := hcs
  exact ⟨l, rfl, hc, hl, hg⟩
/-- A slice that is a struct's field. -/
theorem slice_field {H : Type} {enc : TypeId × Value → H} {w : World} {t e : TypeId} {α : Type} {d : Kd α} {good : List α → Prop} (ho : Opens P t (Kd.slice e d) good) {v : Value} {n : Nat} {x : DataW H × List MemPlace}
    (h : DataW.trod enc P w 0 (fun _ => true) true n t [v] = some x) (hx : ∀ n ∈ DataW.weights P t x.1, n ≤ 140737488351232) :
    ∃ (A : Option Addr) (c : Nat) (l : List α), v = .slice A l.length c ∧ Kd.F d w (fun _ => True) A l.length l ∧ l.length ≤ c ∧ good l := by
  obtain ⟨l, hF, hg⟩ := ho enc w n _ _ h hx
  obtain ⟨A', c, hcs, hl, hc⟩ := Kd.FK_slice_open hF
  simp at hcs
  exact ⟨A', c, l, hcs, hc, hl, hg⟩
theorem int_field {H : Type} {enc : TypeId × Value → H} {w : World} {t : TypeId} {k : IntKind} (ht : P.underlying t = some (.int k)) {v : Value} {n : Nat} {x : DataW H × List MemPlace}
    (h : DataW.trod enc P w 0 (fun _ => true) true n t [v] = some x) : ∃ a : Int, v = .int k a ∧ (Lit.int k a).wf = true := by
  obtain ⟨a, hcs, _, hw⟩ := DataW.trod_int ht h
  simp at hcs
  exact ⟨a, hcs, hw⟩
theorem bool_field {H : Type} {enc : TypeId × Value → H} {w : World} {t : TypeId} (ht : P.underlying t = some .bool) {v : Value} {n : Nat} {x : DataW H × List MemPlace}
    (h : DataW.trod enc P w 0 (fun _ => true) true n t [v] = some x) : ∃ b : Bool, v = .bool b := by
  obtain ⟨a, hcs, _⟩ := DataW.trod_bool ht h
  simp at hcs
  exact ⟨a, hcs⟩
theorem at_ {H : Type} {ts : List TypeId} {ds : List (DataW H)} (h : (DataW.weightsEach P ts ds).all (· ≤ reachBytes) = true) {j : Nat} {t : TypeId} {d : DataW H} (ht : ts[j]? = some t) (hd : ds[j]? = some d) :
    ∀ n ∈ DataW.weights P t d, n ≤ 140737488351232 := fun n hn => by
  have := List.all_eq_true.1 h _ (DataW.weights_mem_each ht hd n hn)
  exact of_decide_eq_true this
theorem fields {H : Type} {t : TypeId} {fs : Array Field} {ds : List (DataW H)} (ht : P.underlying t = some (.struct fs)) (hx : ∀ n ∈ DataW.weights P t (.agg ds), n ≤ 140737488351232) {j : Nat} {f : Field} {d : DataW H} (hf : fs.toList[j]? = some f) (hd : ds[j]? = some d) :
    ∀ n ∈ DataW.weights P f.type d, n ≤ 140737488351232 := fun n hn => by
  refine hx n ?_
  rw [DataW.weights, ht]
  exact DataW.weights_mem_each (ts := fs.toList.map (·.type)) (by simp [hf]) hd n hn
end Go.Proofs.Ytmihgbjfiigmlaa.Open

namespace Go.Proofs.Ytmihgbjfiigmlaa.Pu
open Go.RowKit Go.Proofs.YtmihgbjfiigmlaaW.PrintWords Go.Proofs.YtmihgbjfiigmlaaW.PrintLast Go.Proofs.YtmihgbjfiigmlaaW.PrintMore

/-- With enough rounds the function tells v. -/
def Tells {α : Type} (g : Nat → Option α) (v : α) : Prop := ∃ k0, ∀ k, k0 ≤ k → g k = some v
theorem Tells.ex {α : Type} {g : Nat → Option α} {v : α} (h : Tells g v) : ∃ k, g k = some v := by
  obtain ⟨k0, h⟩ := h; exact ⟨k0, h k0 (Nat.le_refl _)⟩
theorem Tells.const {α : Type} (v : α) : Tells (fun _ => some v) v := ⟨0, fun _ _ => rfl⟩
theorem Tells.of_eq {α : Type} {g : Nat → Option α} {v : α} (h : ∀ k, g k = some v) : Tells g v := ⟨0, fun k _ => h k⟩
theorem Tells.congr {α : Type} {g h : Nat → Option α} {v : α} (e : ∀ k, g k = h k) (H : Tells h v) : Tells g v := by
  obtain ⟨k0, H⟩ := H; exact ⟨k0, fun k hk => (e k).trans (H k hk)⟩
theorem Tells.bind {α β : Type} {g : Nat → Option α} {v : α} {h : Nat → α → Option β} {u : β} (H : Tells g v) (K : Tells (fun k => h k v) u) :
    Tells (fun k => (g k).bind (h k)) u := by
  obtain ⟨k0, H⟩ := H; obtain ⟨k1, K⟩ := K
  refine ⟨k0 + k1, fun k hk => ?_⟩
  show (g k).bind (h k) = some u
  rw [H k (by omega)]; exact K k (by omega)
theorem Tells.succ {α : Type} {g h : Nat → Option α} {v : α} (e : ∀ k, g (k + 1) = h k) (H : Tells h v) : Tells g v := by
  obtain ⟨k0, H⟩ := H
  refine ⟨k0 + 1, fun k hk => ?_⟩
  obtain ⟨j, rfl⟩ : ∃ j, k = j + 1 := ⟨k - 1, by omega⟩
  exact (e j).trans (H j (by omega))
theorem Tells.mono {α : Type} {g : Nat → Option α} (hm : ∀ k, LeO (g k) (g (k + 1))) {k : Nat} {v : α} (h : g k = some v) : Tells g v :=
  ⟨k, fun _ hk => at_rounds hm hk h⟩
theorem Tells.pos {α : Type} {c : Prop} [Decidable c] {g h : Nat → Option α} {v : α} (hc : c) (H : Tells g v) : Tells (fun k => if c then g k else h k) v := by
  obtain ⟨k0, H⟩ := H; exact ⟨k0, fun k hk => (if_pos hc).trans (H k hk)⟩
theorem Tells.neg {α : Type} {c : Prop} [Decidable c] {g h : Nat → Option α} {v : α} (hc : ¬ c) (H : Tells h v) : Tells (fun k => if c then g k else h k) v := by
  obtain ⟨k0, H⟩ := H; exact ⟨k0, fun k hk => (if_neg hc).trans (H k hk)⟩

theorem Tells.ite {α : Type} {c : Prop} [Decidable c] {g h : Nat → Option α} {u v : α} (H : c → Tells g u) (K : ¬ c → Tells h v) : Tells (fun k => if c then g k else h k) (if c then u else v) := by
  by_cases hc : c
  · rw [if_pos hc]; exact Tells.pos hc (H hc)
  · rw [if_neg hc]; exact Tells.neg hc (K hc)

theorem w64 {n : Int} (h0 : -9223372036854775808 ≤ n) (h1 : n < 9223372036854775808) : wrap64 n = n := by unfold wrap64; omega
theorem w64s {i n : Nat} (h : i < n) (hn : n < 4611686018427387904) : wrap64 ((i : Int) + 1) = ((i + 1 : Nat) : Int) := by unfold wrap64; omega
theorem wf64 {n : Int} (h : (Lit.int .i64 n).wf = true) : -9223372036854775808 ≤ n ∧ n ≤ 9223372036854775807 := by
  simp only [Lit.wf, Bool.and_eq_true, decide_eq_true_eq] at h
  have a : IntKind.i64.min = -9223372036854775808 := by decide
  have b : IntKind.i64.max = 9223372036854775807 := by decide
  omega
theorem rdOf_nat {α : Type} (d : α) (xs : List α) (i : Nat) : rdOf d xs (i : Int) = xs.getD i d := by simp [rdOf]
theorem rdOf_at {α : Type} (d : α) (xs : List α) (i : Nat) (h : i < xs.length) : rdOf d xs (i : Int) = xs[i] := by simp [rdOf_nat, h]
end Go.Proofs.Ytmihgbjfiigmlaa.Pu

namespace Go.Proofs.Ytmihgbjfiigmlaa.Pu
open Go.RowKit Go.Proofs.Ytmihgbjfiigmlaa.P Go.Proofs.YtmihgbjfiigmlaaW.PrintWords Go.Proofs.YtmihgbjfiigmlaaW.PrintLast Go.Proofs.YtmihgbjfiigmlaaW.PrintMore

/-- Whole numbers of 64 bits. -/
def I64 (n : Int) : Prop := (Lit.int .i64 n).wf = true
theorem I64.lo {n : Int} (h : I64 n) : -9223372036854775808 ≤ n := (wf64 h).1
theorem I64.hi {n : Int} (h : I64 n) : n ≤ 9223372036854775807 := (wf64 h).2
/-- A literal that is true by values. -/
def litT (l : Int) (v : List Bool) : Bool := decide (l ≠ 0) && decide (l.natAbs ≤ v.length) && (v.getD (l.natAbs - 1) false == decide (l > 0))
def holds (c : List Int) (v : List Bool) : Bool := c.any fun l => litT l v
def every (c : List (List Int)) (v : List Bool) : Bool := c.all fun x => holds x v
def badLit (n l : Int) : Bool := decide (l = 0 ∨ l > n ∨ l < -n)
/-- The error of a clause. -/
def clauseErr (c : List Int) (n : Int) : Int := if c.length > 64 then 2 else if c.any (badLit n) then 1 else 0

theorem lit_is_eq (a : Int) : lit_is.f a = some (decide (a ≠ 0 ∧ a ≠ -9223372036854775808)) := by
  unfold lit_is.f
  by_cases h : a = 0
  · rw [if_pos h, decide_eq_false (by simp [h])]
  · rw [if_neg h]
    by_cases h2 : a = -9223372036854775808
    · rw [h2]; rfl
    · rw [decide_eq_true ⟨h, h2⟩]
      simpa using h2
theorem lit_variable_eq {a : Int} (h : I64 a) (hm : a ≠ -9223372036854775808) : lit_variable.f a = some ((a.natAbs : Nat) : Int) := by
  have := h.lo; have := h.hi
  unfold lit_variable.f mx wrap64
  split <;> (congr 1; omega)
theorem rd_at (xs : List Int) (i : Nat) (h : i < xs.length) : rd xs (i : Int) = xs[i] := by simp [rd, h]

theorem lit_Right_loop (c : List Int) (n : Int) (hc : ∀ l ∈ c, I64 l) (hn : I64 n) (hs : c.length < 4611686018427387904) : ∀ (m i : Nat), m + i = c.length →
    Tells (fun k => lit_Right.l0 k n c (c.length : Int) (i : Int)) (if (c.drop i).any (badLit n) then 1 else 0)
  | 0, i, h => by
    refine Tells.succ (fun k => by rw [lit_Right.l0]) (Tells.neg (by omega) ?_)
    rw [List.drop_of_length_le (by omega)]; exact Tells.const _
  | m + 1, i, h => by
    have hi : i < c.length := by omega
    have hl := hc _ (List.getElem_mem hi); have h1 := hl.lo; have h2 := hl.hi; have := hn.lo; have := hn.hi
    refine Tells.succ (fun k => by rw [lit_Right.l0]) (Tells.pos (by omega) (Tells.pos (by omega) (Tells.pos (by omega) ?_)))
    rw [rd_at _ _ hi, w64s hi hs, List.drop_eq_getElem_cons hi, List.any_cons, lit_is_eq]
    refine Tells.bind (Tells.const _) ?_
    by_cases hb : c[i] ≠ 0 ∧ c[i] ≠ -9223372036854775808
    · refine Tells.pos (decide_eq_true hb) ?_
      rw [lit_variable_eq hl hb.2]
      refine Tells.bind (Tells.const _) ?_
      by_cases hv : ((c[i].natAbs : Nat) : Int) > n
      · have e : badLit n c[i] = true := decide_eq_true (by omega)
        rw [e, Bool.true_or, if_pos rfl]
        exact Tells.pos hv (Tells.const _)
      · have e : badLit n c[i] = false := decide_eq_false (by omega)
        rw [e, Bool.false_or]
        exact Tells.neg hv (lit_Right_loop c n hc hn hs m (i + 1) (by omega))
    · have e : badLit n c[i] = true := decide_eq_true (by omega)
      rw [e, Bool.true_or, if_pos rfl]
      exact Tells.neg (by simpa using hb) (Tells.const _)
theorem lit_Right_tells (c : List Int) (n : Int) (hc : ∀ l ∈ c, I64 l) (hn : I64 n) (hs : c.length < 4611686018427387904) : Tells (fun k => lit_Right.f k c n) (clauseErr c n) := by
  unfold lit_Right.f clauseErr
  by_cases h : c.length > 64
  · rw [if_pos h]; exact Tells.pos (by omega) (Tells.const _)
  · rw [if_neg h]; exact Tells.neg (by omega) (lit_Right_loop c n hc hn hs c.length 0 rfl)

theorem lit_Count_loop (c : List Int) (v : List Bool) (hc : ∀ l ∈ c, I64 l) (hs : c.length < 4611686018427387904) (hv : v.length < 4611686018427387904) : ∀ (m i n : Nat), m + i = c.length → n ≤ i →
    Tells (fun k => lit_Count.l0 k v (n : Int) c (c.length : Int) (i : Int)) ((n + (c.drop i).countP (fun l => litT l v) : Nat) : Int)
  | 0, i, n, h, _ => by
    refine Tells.succ (fun k => by rw [lit_Count.l0]) (Tells.neg (by omega) ?_)
    rw [List.drop_of_length_le (by omega)]; exact Tells.const _
  | m + 1, i, n, h, hni => by
    have hi : i < c.length := by omega
    have hl := hc _ (List.getElem_mem hi); have h1 := hl.lo; have h2 := hl.hi
    refine Tells.succ (fun k => by rw [lit_Count.l0]) (Tells.pos (by omega) (Tells.pos (by omega) (Tells.pos (by omega) ?_)))
    rw [rd_at _ _ hi, w64s hi hs, w64s (by omega : n < c.length) hs, List.drop_eq_getElem_cons hi, List.countP_cons, lit_is_eq]
    refine Tells.bind (Tells.const _) ?_
    have no : litT c[i] v = false → Tells (fun k => lit_Count.l0 k v (n : Int) c (c.length : Int) ((i + 1 : Nat) : Int)) ((n + ((c.drop (i + 1)).countP (fun l => litT l v) + if litT c[i] v = true then 1 else 0) : Nat) : Int) := fun e => by
      rw [e, if_neg (by simp), Nat.add_zero]
      exact lit_Count_loop c v hc hs hv m (i + 1) n (by omega) (by omega)
    by_cases hb : c[i] ≠ 0 ∧ c[i] ≠ -9223372036854775808
    · refine Tells.pos (decide_eq_true hb) ?_
      rw [lit_variable_eq hl hb.2]
      refine Tells.bind (Tells.const _) ?_
      by_cases hx : ((c[i].natAbs : Nat) : Int) ≤ (v.length : Int)
      · have hw : wrap64 (((c[i].natAbs : Nat) : Int) - 1) = ((c[i].natAbs - 1 : Nat) : Int) := by unfold wrap64; omega
        have hlt : c[i].natAbs - 1 < v.length := by omega
        have e : litT c[i] v = (v[c[i].natAbs - 1] == decide (c[i] > 0)) := by
          unfold litT
          rw [decide_eq_true hb.1, decide_eq_true (by omega : c[i].natAbs ≤ v.length), List.getD_eq_getElem?_getD, List.getElem?_eq_getElem hlt]
          rfl
        refine Tells.pos hx ?_
        rw [hw]
        refine Tells.pos (by omega) (Tells.pos (by omega) ?_)
        rw [rdOf_at _ _ _ hlt]
        by_cases hq : (v[c[i].natAbs - 1] == decide (c[i] > 0)) = true
        · refine Tells.pos hq ?_
          rw [e, if_pos hq, show n + ((c.drop (i + 1)).countP (fun l => litT l v) + 1) = (n + 1) + (c.drop (i + 1)).countP (fun l => litT l v) by omega]
          exact lit_Count_loop c v hc hs hv m (i + 1) (n + 1) (by omega) (by omega)
        · refine Tells.neg hq (no ?_)
          rw [e]; simpa using hq
      · refine Tells.neg hx (no ?_)
        unfold litT
        rw [decide_eq_false (by omega : ¬ c[i].natAbs ≤ v.length)]
        simp
    · refine Tells.neg (by simpa using hb) (no ?_)
      unfold litT
      by_cases h0 : c[i] = 0
      · rw [h0]; rfl
      · rw [decide_eq_false (by omega : ¬ c[i].natAbs ≤ v.length)]
        simp
theorem lit_Count_tells (c : List Int) (v : List Bool) (hc : ∀ l ∈ c, I64 l) (hs : c.length < 4611686018427387904) (hv : v.length < 4611686018427387904) : Tells (fun k => lit_Count.f k c v) (((c.countP fun l => litT l v) : Nat) : Int) := by
  unfold lit_Count.f
  have := lit_Count_loop c v hc hs hv c.length 0 0 rfl (Nat.le_refl _)
  simpa using this
theorem lit_Holds_tells (c : List Int) (v : List Bool) (hc : ∀ l ∈ c, I64 l) (hs : c.length < 4611686018427387904) (hv : v.length < 4611686018427387904) : Tells (fun k => lit_Holds.f k c v) (holds c v) := by
  unfold lit_Holds.f
  refine Tells.bind (lit_Count_tells c v hc hs hv) ?_
  have e : decide ((((c.countP fun l => litT l v) : Nat) : Int) > 0) = holds c v := by
    unfold holds
    by_cases h : 0 < c.countP fun l => litT l v
    · rw [decide_eq_true (by omega)]
      obtain ⟨l, hl, hp⟩ := List.countP_pos_iff.1 h
      exact (List.any_eq_true.2 ⟨l, hl, hp⟩).symm
    · rw [decide_eq_false (by omega)]
      rw [eq_comm, List.any_eq_false]
      intro l hl hp
      exact h (List.countP_pos_iff.2 ⟨l, hl, hp⟩)
  rw [e]; exact Tells.const _
end Go.Proofs.Ytmihgbjfiigmlaa.Pu

namespace Go.Proofs.Ytmihgbjfiigmlaa.Pu
open Go.RowKit Go.Proofs.Ytmihgbjfiigmlaa.P Go.Proofs.YtmihgbjfiigmlaaW.PrintWords Go.Proofs.YtmihgbjfiigmlaaW.PrintLast Go.Proofs.YtmihgbjfiigmlaaW.PrintMore

/-- The first error of clauses. -/
def clausesErr (n : Int) : List (List Int) → Int
  | [] => 0
  | c :: l => if clauseErr c n = 0 then clausesErr n l else clauseErr c n
/-- The error of a set. -/
def setErr (n : Int) (l : List (List Int)) : Int := if n < 0 ∨ n > 1024 then 1 else if l.length > 4096 then 2 else clausesErr n l
/-- Rows of numbers as a reading has them. -/
def Rows64 (l : List (List Int)) : Prop := l.length < 4611686018427387904 ∧ ∀ c ∈ l, c.length < 4611686018427387904 ∧ ∀ x ∈ c, I64 x
theorem rdL_at (xs : List (List Int)) (i : Nat) (h : i < xs.length) : rd_L3 xs (i : Int) = xs[i] := by simp [rd_L3, h]
end Go.Proofs.Ytmihgbjfiigmlaa.Pu

namespace Go.Proofs.Ytmihgbjfiigmlaa.Pu
open Go.RowKit Go.Proofs.Ytmihgbjfiigmlaa.P Go.Proofs.YtmihgbjfiigmlaaW.PrintWords Go.Proofs.YtmihgbjfiigmlaaW.PrintLast Go.Proofs.YtmihgbjfiigmlaaW.PrintMore

/-- A number that is a literal. -/
def isL (l : Int) : Bool := decide (l ≠ 0 ∧ l ≠ -9223372036854775808)
def hasL (c : List Int) (l : Int) : Bool := isL l && c.any fun x => x == l
def withinL (a b : List Int) : Bool := a.all fun x => !isL x || hasL b x
def sameL (a b : List Int) : Bool := withinL a b && withinL b a
theorem hasL_iff {c : List Int} {l : Int} : hasL c l = true ↔ isL l = true ∧ l ∈ c := by
  unfold hasL
  rw [Bool.and_eq_true, List.any_eq_true]
  refine ⟨fun h => ⟨h.1, ?_⟩, fun h => ⟨h.1, l, h.2, by simp⟩⟩
  obtain ⟨x, hx, e⟩ := h.2
  rw [← beq_iff_eq.1 e]; exact hx
theorem lit_is_isL (a : Int) : lit_is.f a = some (isL a) := lit_is_eq a
theorem Index_loop (c : List Int) (x : Int) (hs : c.length < 4611686018427387904) : ∀ (m i : Nat), m + i = c.length →
    ∃ r, Tells (fun k => slices_Index_int_int.l0 k c x (c.length : Int) (i : Int)) r ∧ decide (r ≥ 0) = (c.drop i).any fun y => y == x
  | 0, i, h => by
    refine ⟨-1, Tells.succ (fun k => by rw [slices_Index_int_int.l0]) (Tells.neg (by omega) (Tells.const _)), ?_⟩
    rw [List.drop_of_length_le (by omega)]; rfl
  | m + 1, i, h => by
    have hi : i < c.length := by omega
    rw [List.drop_eq_getElem_cons hi, List.any_cons]
    by_cases he : x = c[i]
    · refine ⟨(i : Int), Tells.succ (fun k => by rw [slices_Index_int_int.l0]) (Tells.pos (by omega) (Tells.pos (by omega) (Tells.pos (by omega) ?_))), ?_⟩
      · rw [rd_at _ _ hi]; exact Tells.pos he (Tells.const _)
      · rw [← he]; simp
    · obtain ⟨r, hr, hd⟩ := Index_loop c x hs m (i + 1) (by omega)
      refine ⟨r, Tells.succ (fun k => by rw [slices_Index_int_int.l0]) (Tells.pos (by omega) (Tells.pos (by omega) (Tells.pos (by omega) ?_))), ?_⟩
      · rw [rd_at _ _ hi, w64s hi hs]; exact Tells.neg he hr
      · rw [hd, show (c[i] == x) = false from beq_eq_false_iff_ne.2 (fun e => he e.symm), Bool.false_or]
theorem lit_Has_tells (c : List Int) (x : Int) (hs : c.length < 4611686018427387904) : Tells (fun k => lit_Has.f k c x) (hasL c x) := by
  unfold lit_Has.f hasL
  rw [lit_is_isL]
  refine Tells.bind (Tells.const _) ?_
  by_cases hx : isL x = true
  · obtain ⟨r, hr, hd⟩ := Index_loop c x hs c.length 0 rfl
    rw [hx, Bool.true_and]
    refine Tells.pos rfl (Tells.bind (v := c.any fun y => y == x) ?_ (Tells.const _))
    unfold slices_Contains_int_int.f
    refine Tells.bind (v := r) hr ?_
    rw [hd]; exact Tells.const _
  · rw [Bool.eq_false_iff.2 hx]
    exact Tells.neg (by decide) (Tells.const _)

theorem lit_Within_loop (a b : List Int) (ha : a.length < 4611686018427387904) (hb : b.length < 4611686018427387904) : ∀ (m i : Nat), m + i = a.length →
    Tells (fun k => lit_Within.l0 k b a (a.length : Int) (i : Int)) (withinL (a.drop i) b)
  | 0, i, h => by
    refine Tells.succ (fun k => by rw [lit_Within.l0]) (Tells.neg (by omega) ?_)
    rw [List.drop_of_length_le (by omega)]; exact Tells.const _
  | m + 1, i, h => by
    have hi : i < a.length := by omega
    have ih := lit_Within_loop a b ha hb m (i + 1) (by omega)
    refine Tells.succ (fun k => by rw [lit_Within.l0]) (Tells.pos (by omega) (Tells.pos (by omega) (Tells.pos (by omega) ?_)))
    rw [rd_at _ _ hi, w64s hi ha, List.drop_eq_getElem_cons hi, withinL, List.all_cons, lit_is_isL]
    refine Tells.bind (Tells.const _) ?_
    by_cases hx : isL a[i] = true
    · refine Tells.pos hx (Tells.bind (lit_Has_tells b a[i] hb) ?_)
      by_cases hh : hasL b a[i] = true
      · refine Tells.pos hh ?_
        rw [hh, Bool.or_true, Bool.true_and]; exact ih
      · refine Tells.neg hh ?_
        rw [hx, Bool.eq_false_iff.2 hh]; exact Tells.const _
    · refine Tells.neg hx ?_
      rw [Bool.eq_false_iff.2 hx]; exact ih
theorem lit_Within_tells (a b : List Int) (ha : a.length < 4611686018427387904) (hb : b.length < 4611686018427387904) : Tells (fun k => lit_Within.f k a b) (withinL a b) := lit_Within_loop a b ha hb a.length 0 rfl
theorem lit_Same_tells (a b : List Int) (ha : a.length < 4611686018427387904) (hb : b.length < 4611686018427387904) : Tells (fun k => lit_Same.f k a b) (sameL a b) := by
  unfold lit_Same.f sameL
  refine Tells.bind (lit_Within_tells a b ha hb) ?_
  by_cases h : withinL a b = true
  · rw [h, Bool.true_and]
    exact Tells.pos rfl (Tells.bind (lit_Within_tells b a hb ha) (Tells.const _))
  · rw [Bool.eq_false_iff.2 h]
    exact Tells.neg (by decide) (Tells.const _)

end Go.Proofs.Ytmihgbjfiigmlaa.Pu

namespace Go.Proofs.Ytmihgbjfiigmlaa.Pu
open Go.RowKit Go.Proofs.Ytmihgbjfiigmlaa.P Go.Proofs.YtmihgbjfiigmlaaW.PrintWords Go.Proofs.YtmihgbjfiigmlaaW.PrintLast Go.Proofs.YtmihgbjfiigmlaaW.PrintMore

/-- Does one literal stand ahead of another one? -/
def aheadL (a b : Int) : Bool := decide (a.natAbs < b.natAbs) || (decide (a.natAbs = b.natAbs) && decide (a < b))
/-- A literal put in its place. -/
def insL (x : Int) (out : List Int) : List Int := out.takeWhile (fun y => aheadL y x) ++ x :: out.dropWhile (fun y => aheadL y x)
def cleanStep (out : List Int) (x : Int) : List Int := if isL x && !hasL out x then insL x out else out
def cleanL (c : List Int) : List Int := c.foldl cleanStep []
/-- Two literals are opposites. -/
def oppL (c : List Int) : Bool := c.any fun x => hasL c (-x)
theorem insL_mem {x y : Int} {out : List Int} : y ∈ insL x out ↔ y = x ∨ y ∈ out := by
  unfold insL
  rw [List.mem_append, List.mem_cons]
  constructor
  · rintro (h | h | h)
    · exact .inr (List.takeWhile_subset _ h)
    · exact .inl h
    · exact .inr (List.dropWhile_subset _ h)
  · rintro (h | h)
    · exact .inr (.inl h)
    · rw [← List.takeWhile_append_dropWhile (p := fun y => aheadL y x) (l := out), List.mem_append] at h
      rcases h with h | h
      · exact .inl h
      · exact .inr (.inr h)
theorem insL_length (x : Int) (out : List Int) : (insL x out).length = out.length + 1 := by
  have := congrArg List.length (List.takeWhile_append_dropWhile (p := fun y => aheadL y x) (l := out))
  unfold insL
  rw [List.length_append] at this ⊢
  rw [List.length_cons]; omega
theorem insL_nodup {x : Int} {out : List Int} (h : out.Nodup) (hx : ¬ x ∈ out) : (insL x out).Nodup := by
  have e := List.takeWhile_append_dropWhile (p := fun y => aheadL y x) (l := out)
  unfold insL
  rw [← e] at h hx
  rw [List.nodup_append] at h ⊢
  rw [List.mem_append] at hx
  refine ⟨h.1, List.nodup_cons.2 ⟨fun hh => hx (.inr hh), h.2.1⟩, fun a ha b hb => ?_⟩
  rcases List.mem_cons.1 hb with rfl | hb
  · exact fun e => hx (.inl (e ▸ ha))
  · exact h.2.2 a ha b hb
theorem cleanStep_mem {out : List Int} {x y : Int} : y ∈ cleanStep out x ↔ y ∈ out ∨ (y = x ∧ isL x = true) := by
  unfold cleanStep
  by_cases h : (isL x && !hasL out x) = true
  · rw [if_pos h, insL_mem]
    have := (Bool.and_eq_true _ _ ▸ h).1
    exact ⟨fun h => h.elim (fun e => .inr ⟨e, this⟩) .inl, fun h => h.elim .inr (fun e => .inl e.1)⟩
  · rw [if_neg h]
    refine ⟨.inl, fun h' => h'.elim id fun ⟨e, hl⟩ => ?_⟩
    have : hasL out x = true := by
      rw [hl, Bool.true_and] at h
      simpa using h
    rw [e]; exact (hasL_iff.1 this).2
theorem cleanFold_mem : ∀ (c out : List Int) {y : Int}, y ∈ c.foldl cleanStep out ↔ y ∈ out ∨ (y ∈ c ∧ isL y = true)
  | [], _, _ => by simp
  | _ :: t, _, y => by
    rw [List.foldl_cons, cleanFold_mem t, cleanStep_mem, List.mem_cons]
    constructor
    · rintro ((h | ⟨rfl, h⟩) | ⟨h, h'⟩)
      · exact .inl h
      · exact .inr ⟨.inl rfl, h⟩
      · exact .inr ⟨.inr h, h'⟩
    · rintro (h | ⟨rfl | h, h'⟩)
      · exact .inl (.inl h)
      · exact .inl (.inr ⟨rfl, h'⟩)
      · exact .inr ⟨h, h'⟩
theorem cleanL_mem {c : List Int} {y : Int} : y ∈ cleanL c ↔ y ∈ c ∧ isL y = true := by unfold cleanL; rw [cleanFold_mem]; simp
theorem cleanStep_nodup {out : List Int} {x : Int} (h : out.Nodup) : (cleanStep out x).Nodup := by
  unfold cleanStep
  by_cases hx : (isL x && !hasL out x) = true
  · rw [if_pos hx]
    refine insL_nodup h fun hm => ?_
    rw [Bool.and_eq_true] at hx
    have := hasL_iff.2 ⟨hx.1, hm⟩
    rw [this] at hx
    simp at hx
  · rw [if_neg hx]; exact h
theorem cleanFold_nodup : ∀ (c out : List Int), out.Nodup → (c.foldl cleanStep out).Nodup
  | [], _, h => h
  | _ :: t, _, h => cleanFold_nodup t _ (cleanStep_nodup h)
theorem cleanL_nodup (c : List Int) : (cleanL c).Nodup := cleanFold_nodup c [] List.nodup_nil
theorem cleanStep_length (out : List Int) (x : Int) : (cleanStep out x).length ≤ out.length + 1 := by
  unfold cleanStep
  split
  · rw [insL_length]; omega
  · omega
end Go.Proofs.Ytmihgbjfiigmlaa.Pu

namespace Go.Proofs.Ytmihgbjfiigmlaa.Pu
open Go.RowKit Go.Proofs.Ytmihgbjfiigmlaa.P Go.Proofs.YtmihgbjfiigmlaaW.PrintWords Go.Proofs.YtmihgbjfiigmlaaW.PrintLast Go.Proofs.YtmihgbjfiigmlaaW.PrintMore

theorem ahead_iff {a b : Int} : aheadL a b = true ↔ a.natAbs < b.natAbs ∨ (a.natAbs = b.natAbs ∧ a < b) := by
  unfold aheadL
  simp only [Bool.or_eq_true, Bool.and_eq_true, decide_eq_true_eq]
theorem ahead_asymm {a b : Int} (h : aheadL a b = true) : ¬ aheadL b a = true := by
  rw [ahead_iff] at h ⊢; omega
theorem ahead_irrefl (a : Int) : ¬ aheadL a a = true := by
  rw [ahead_iff]; omega
theorem ahead_trans {a b c : Int} (h : aheadL a b = true) (h' : aheadL b c = true) : aheadL a c = true := by
  rw [ahead_iff] at h h' ⊢; omega
theorem ahead_total {a b : Int} (h : a ≠ b) : aheadL a b = true ∨ aheadL b a = true := by
  rw [ahead_iff, ahead_iff]; omega
/-- Rising lists of the same numbers are the same. -/
theorem rising_ext : ∀ (a b : List Int), a.Pairwise (fun x y => aheadL x y = true) → b.Pairwise (fun x y => aheadL x y = true) → (∀ x, x ∈ a ↔ x ∈ b) → a = b
  | [], [], _, _, _ => rfl
  | [], y :: b, _, _, h => absurd ((h y).2 (by simp)) (by simp)
  | x :: a, [], _, _, h => absurd ((h x).1 (by simp)) (by simp)
  | x :: a, y :: b, ha, hb, h => by
    rw [List.pairwise_cons] at ha hb
    have e : x = y := by
      refine Decidable.byContradiction fun hne => ?_
      have h1 : aheadL y x = true := by
        rcases List.mem_cons.1 ((h x).1 (by simp)) with e | hm
        · exact absurd e hne
        · exact hb.1 x hm
      have h2 : aheadL x y = true := by
        rcases List.mem_cons.1 ((h y).2 (by simp)) with e | hm
        · exact absurd e.symm hne
        · exact ha.1 y hm
      exact ahead_asymm h1 h2
    subst e
    rw [rising_ext a b ha.2 hb.2 (fun z => ?_)]
    constructor
    · intro hz
      rcases List.mem_cons.1 ((h z).1 (by simp [hz])) with e | hm
      · exact absurd (ha.1 z hz) (e ▸ ahead_irrefl z)
      · exact hm
    · intro hz
      rcases List.mem_cons.1 ((h z).2 (by simp [hz])) with e | hm
      · exact absurd (hb.1 z hz) (e ▸ ahead_irrefl z)
      · exact hm
theorem insL_rises {x : Int} : ∀ {out : List Int}, out.Pairwise (fun x y => aheadL x y = true) → ¬ x ∈ out → (insL x out).Pairwise (fun x y => aheadL x y = true)
  | [], _, _ => by unfold insL; simp
  | y :: out, h, hx => by
    rw [List.pairwise_cons] at h
    have hne : y ≠ x := fun e => hx (by simp [e])
    by_cases hy : aheadL y x = true
    · have e : insL x (y :: out) = y :: insL x out := by
        unfold insL
        rw [List.takeWhile_cons_of_pos (p := fun y => aheadL y x) hy, List.dropWhile_cons_of_pos (p := fun y => aheadL y x) hy]; rfl
      rw [e, List.pairwise_cons]
      refine ⟨fun z hz => ?_, insL_rises h.2 (fun hm => hx (by simp [hm]))⟩
      rcases insL_mem.1 hz with rfl | hz
      · exact hy
      · exact h.1 z hz
    · have e : insL x (y :: out) = x :: y :: out := by
        unfold insL
        rw [List.takeWhile_cons_of_neg (p := fun y => aheadL y x) hy, List.dropWhile_cons_of_neg (p := fun y => aheadL y x) hy]; rfl
      have hxy : aheadL x y = true := (ahead_total hne).resolve_left hy
      rw [e, List.pairwise_cons, List.pairwise_cons]
      refine ⟨fun z hz => ?_, h⟩
      rcases List.mem_cons.1 hz with rfl | hz
      · exact hxy
      · exact ahead_trans hxy (h.1 z hz)
theorem cleanStep_rises {out : List Int} {x : Int} (h : out.Pairwise (fun x y => aheadL x y = true)) : (cleanStep out x).Pairwise (fun x y => aheadL x y = true) := by
  unfold cleanStep
  by_cases hc : (isL x && !hasL out x) = true
  · rw [if_pos hc]
    refine insL_rises h fun hm => ?_
    rw [Bool.and_eq_true] at hc
    have := hasL_iff.2 ⟨hc.1, hm⟩
    rw [this] at hc
    simp at hc
  · rw [if_neg hc]; exact h
theorem cleanFold_rises : ∀ (c out : List Int), out.Pairwise (fun x y => aheadL x y = true) → (c.foldl cleanStep out).Pairwise (fun x y => aheadL x y = true)
  | [], _, h => h
  | _ :: t, _, h => cleanFold_rises t _ (cleanStep_rises h)
theorem cleanL_rises (c : List Int) : (cleanL c).Pairwise (fun x y => aheadL x y = true) := cleanFold_rises c [] List.Pairwise.nil
/-- Of numbers side by side that are the same, one. -/
def compactL : List Int → List Int
  | [] => []
  | [x] => [x]
  | x :: y :: t => if x = y then compactL (y :: t) else x :: compactL (y :: t)
theorem compactL_mem : ∀ (l : List Int) (z : Int), z ∈ compactL l ↔ z ∈ l
  | [], z => Iff.rfl
  | [x], z => Iff.rfl
  | x :: y :: t, z => by
    rw [compactL]
    by_cases e : x = y
    · rw [if_pos e, compactL_mem (y :: t) z, e]; simp
    · rw [if_neg e, List.mem_cons, compactL_mem (y :: t) z, List.mem_cons (a := z) (b := x)]
theorem compactL_rises : ∀ (l : List Int), l.Pairwise (fun x y => ¬ aheadL y x = true) → (compactL l).Pairwise (fun x y => aheadL x y = true)
  | [], _ => List.Pairwise.nil
  | [x], _ => by rw [compactL]; simp
  | x :: y :: t, h => by
    rw [compactL]
    have ih := compactL_rises (y :: t) (List.pairwise_cons.1 h).2
    by_cases e : x = y
    · rw [if_pos e]; exact ih
    · rw [if_neg e, List.pairwise_cons]
      refine ⟨fun z hz => ?_, ih⟩
      have hz := (compactL_mem _ z).1 hz
      obtain ⟨h1, h2⟩ := List.pairwise_cons.1 h
      have hxy : aheadL x y = true := (ahead_total e).resolve_right (h1 y (by simp))
      rcases List.mem_cons.1 hz with rfl | hz
      · exact hxy
      · by_cases e2 : y = z
        · exact e2 ▸ hxy
        · exact ahead_trans hxy ((ahead_total e2).resolve_right ((List.pairwise_cons.1 h2).1 z hz))
/-- Sorted, and of the same ones one: that is the cleaned clause. -/
theorem sort_clean (c : List Int) : compactL ((c.filter isL).mergeSort fun x y => !aheadL y x) = cleanL c := by
  refine rising_ext _ _ (compactL_rises _ ?_) (cleanL_rises c) (fun z => ?_)
  · have := List.pairwise_mergeSort (le := fun x y => !aheadL y x) (fun a b d h1 h2 => by
      rw [Bool.not_eq_true'] at h1 h2 ⊢
      rw [← Bool.not_eq_true] at h1 h2 ⊢
      rw [ahead_iff] at h1 h2 ⊢
      omega) (fun a b => by
      rw [Bool.or_eq_true, Bool.not_eq_true', Bool.not_eq_true', ← Bool.not_eq_true, ← Bool.not_eq_true, ahead_iff, ahead_iff]
      omega) (c.filter isL)
    exact this.imp (fun h => by rw [Bool.not_eq_true'] at h; rw [h]; decide)
  · rw [compactL_mem, List.mem_mergeSort, List.mem_filter, cleanL_mem]
end Go.Proofs.Ytmihgbjfiigmlaa.Pu

namespace Go.Proofs.Ytmihgbjfiigmlaa.Pu
open Go.RowKit Go.Proofs.Ytmihgbjfiigmlaa.P Go.Proofs.YtmihgbjfiigmlaaW.PrintWords Go.Proofs.YtmihgbjfiigmlaaW.PrintLast Go.Proofs.YtmihgbjfiigmlaaW.PrintMore

theorem cfL_ahead {a b : Int} (ha : I64 a) (hb : I64 b) (la : isL a = true) (lb : isL b = true) : Go.Proofs.ltOf cfL a b = aheadL a b := by
  have := ha.lo; have := ha.hi; have := hb.lo; have := hb.hi
  have l1 := (of_decide_eq_true la).2
  have l2 := (of_decide_eq_true lb).2
  have e1 : mx a (wrap64 (-a)) = ((a.natAbs : Nat) : Int) := by
    unfold mx wrap64; split <;> omega
  have e2 : mx b (wrap64 (-b)) = ((b.natAbs : Nat) : Int) := by
    unfold mx wrap64; split <;> omega
  unfold Go.Proofs.ltOf
  rw [Bool.eq_iff_iff, decide_eq_true_eq, cfL_lt, e1, e2, ahead_iff]
  omega
theorem compact_mem (xs : List Int) (z : Int) : z ∈ Lib.compact xs ↔ z ∈ xs := by
  unfold Lib.compact Lib.compactUpTo
  rw [List.mem_map]
  constructor
  · rintro ⟨j, hj, rfl⟩
    have hj := List.mem_range.1 (List.mem_filter.1 hj).1
    simp [hj]
  · intro hz
    obtain ⟨i, hi, rfl⟩ := List.getElem_of_mem hz
    have key : ∀ j : Nat, j < xs.length → ∃ a, a ∈ (List.range xs.length).filter (Lib.keeps xs.toArray) ∧ xs.toArray[a]! = xs.toArray[j]! := by
      intro j
      induction j with
      | zero => exact fun h => ⟨0, List.mem_filter.2 ⟨List.mem_range.2 h, Lib.keeps_lt_one _ 0 (by omega)⟩, rfl⟩
      | succ j ih =>
        intro h
        by_cases e : xs.toArray[j + 1]! = xs.toArray[j + 1 - 1]!
        · obtain ⟨a, ha, ea⟩ := ih (by omega)
          exact ⟨a, ha, ea.trans e.symm⟩
        · exact ⟨j + 1, List.mem_filter.2 ⟨List.mem_range.2 h, Lib.keeps_pos e⟩, rfl⟩
    obtain ⟨a, ha, ea⟩ := key i hi
    exact ⟨a, ha, by rw [ea]; simp [hi]⟩
theorem compact_rises (xs : List Int) (h : xs.Pairwise (fun x y => ¬ aheadL y x = true)) : (Lib.compact xs).Pairwise (fun x y => aheadL x y = true) := by
  unfold Lib.compact Lib.compactUpTo
  rw [List.pairwise_map]
  have hs : ∀ i j : Nat, i < j → j < xs.length → ¬ aheadL xs.toArray[j]! xs.toArray[i]! = true := fun i j hij hj => by
    have := List.pairwise_iff_getElem.1 h i j (by omega) hj hij
    simpa [hj, show i < xs.length by omega] using this
  have hr : (List.range xs.length).Pairwise (· < ·) := List.pairwise_lt_range
  refine List.Pairwise.imp_of_mem (R := (· < ·)) (fun {i j} hi hj hij => ?_) (hr.filter _)
  obtain ⟨hj, hk⟩ := List.mem_filter.1 hj
  have hj := List.mem_range.1 hj
  have hk := of_decide_eq_true hk
  have hne : xs.toArray[j]! ≠ xs.toArray[j - 1]! := hk.resolve_left (by omega)
  have h1 : aheadL xs.toArray[j - 1]! xs.toArray[j]! = true := (ahead_total hne).resolve_left (hs (j - 1) j (by omega) hj)
  rcases Nat.lt_or_ge i (j - 1) with h2 | h2
  · by_cases e : xs.toArray[i]! = xs.toArray[j - 1]!
    · rw [e]; exact h1
    · exact ahead_trans ((ahead_total e).resolve_right (hs i (j - 1) h2 (by omega))) h1
  · obtain rfl : i = j - 1 := by omega
    exact h1
theorem lit_Clean_out (c : List Int) (hc : ∀ x ∈ c, I64 x) : lit_Clean.out c = cleanL c := by
  unfold lit_Clean.out
  have ef : (fun l => (lit_is.f l).getD false) = isL := funext fun l => by rw [lit_is_isL]; rfl
  rw [ef]
  have hm : ∀ z, z ∈ (c.filter isL).mergeSort (fun x y => !(Go.Proofs.ltOf cfL) y x) ↔ z ∈ c ∧ isL z = true := fun z => by rw [List.mem_mergeSort, List.mem_filter]
  refine rising_ext _ _ (compact_rises _ ?_) (cleanL_rises c) (fun z => by rw [compact_mem, hm, cleanL_mem])
  have hp := List.pairwise_mergeSort (le := fun x y => !(Go.Proofs.ltOf cfL) y x) (fun a b d h1 h2 => by
    rw [Bool.not_eq_true'] at h1 h2 ⊢
    exact cfL_swo.ntrans _ _ _ h2 h1) (fun a b => by
    rw [Bool.or_eq_true, Bool.not_eq_true', Bool.not_eq_true']
    by_cases h : Go.Proofs.ltOf cfL b a = true
    · refine .inr ?_
      rw [Bool.eq_false_iff]
      intro h'
      have := cfL_swo.trans _ _ _ h h'
      rw [cfL_swo.irrefl] at this; cases this
    · exact .inl (Bool.eq_false_iff.2 h)) (c.filter isL)
  refine hp.imp_of_mem fun {x y} hx hy h => ?_
  rw [hm] at hx hy
  rw [Bool.not_eq_true', cfL_ahead (hc _ hy.1) (hc _ hx.1) hy.2 hx.2] at h
  rw [h]; decide
theorem adjB_iff : ∀ (l : List Int), l.Pairwise (fun x y => aheadL x y = true) → (∀ x ∈ l, I64 x ∧ isL x = true) → (adjB l = true ↔ ∃ x ∈ l, -x ∈ l)
  | [], _, _ => by simp [adjB]
  | [x], _, h => by
    have h1 := of_decide_eq_true (h x (by simp)).2
    simp only [adjB, List.mem_singleton, exists_eq_left]
    constructor
    · intro h; cases h
    · intro h; omega
  | x :: y :: t, hp, h => by
    obtain ⟨hx, hp'⟩ := List.pairwise_cons.1 hp
    have ih := adjB_iff (y :: t) hp' (fun z hz => h z (List.mem_cons_of_mem _ hz))
    obtain ⟨i1, i2⟩ := h x (by simp)
    have j1 := i1.lo; have j2 := i1.hi
    have i3 := of_decide_eq_true i2
    have hw : wrap64 (-x) = -x := w64 (by omega) (by omega)
    rw [adjB, Bool.or_eq_true, ih, beq_iff_eq, hw]
    constructor
    · rintro (h | ⟨z, h1, h2⟩)
      · exact ⟨x, by simp, by simp [h]⟩
      · exact ⟨z, List.mem_cons_of_mem _ h1, List.mem_cons_of_mem _ h2⟩
    · have key : -x ∈ y :: t → y = -x := fun hm => by
        rcases List.mem_cons.1 hm with e | hm
        · exact e.symm
        · have a1 := ahead_iff.1 (hx y (by simp))
          have a2 := ahead_iff.1 ((List.pairwise_cons.1 hp').1 _ hm)
          omega
      rintro ⟨z, h1, h2⟩
      rcases List.mem_cons.1 h1 with rfl | h1
      · rcases List.mem_cons.1 h2 with e | h2
        · omega
        · exact .inl (key h2)
      · rcases List.mem_cons.1 h2 with e | h2
        · have : z = -x := by omega
          exact .inl (key (this ▸ h1))
        · exact .inr ⟨z, h1, h2⟩
theorem oppL_iff {l : List Int} (h : ∀ x ∈ l, I64 x ∧ isL x = true) : oppL l = true ↔ ∃ x ∈ l, -x ∈ l := by
  unfold oppL
  rw [List.any_eq_true]
  constructor
  · rintro ⟨x, h1, h2⟩
    exact ⟨x, h1, (hasL_iff.1 h2).2⟩
  · rintro ⟨x, h1, h2⟩
    exact ⟨x, h1, hasL_iff.2 ⟨(h _ h2).2, h2⟩⟩
theorem cleanL_good {c : List Int} (hc : ∀ x ∈ c, I64 x) : ∀ x ∈ cleanL c, I64 x ∧ isL x = true := fun x hx => by
  rw [cleanL_mem] at hx
  exact ⟨hc x hx.1, hx.2⟩
theorem cleanL_length (c : List Int) : (cleanL c).length ≤ c.length := by
  have : ∀ (c out : List Int), (c.foldl cleanStep out).length ≤ out.length + c.length := by
    intro c
    induction c with
    | nil => intro out; simp
    | cons x t ih =>
      intro out
      rw [List.foldl_cons, List.length_cons]
      have := ih (cleanStep out x); have := cleanStep_length out x
      omega
  have := this c []
  unfold cleanL
  simpa using this
theorem adjB_oppL {c : List Int} (hc : ∀ x ∈ c, I64 x) : adjB (cleanL c) = oppL (cleanL c) := by
  rw [Bool.eq_iff_iff, adjB_iff _ (cleanL_rises c) (cleanL_good hc), oppL_iff (cleanL_good hc)]
theorem lit_Clean_eq (c : List Int) (hc : ∀ x ∈ c, I64 x) (hs : c.length < 17592186044416) : lit_Clean.f c = some (cleanL c, !oppL (cleanL c)) := by
  unfold lit_Clean.f
  rw [lit_Clean_out c hc, adjB_oppL hc, if_pos ⟨hs, cleanL_length c⟩]
end Go.Proofs.Ytmihgbjfiigmlaa.Pu

namespace Go.Proofs.Ytmihgbjfiigmlaa.Pu
open Go.RowKit Go.Proofs.Ytmihgbjfiigmlaa.P Go.Proofs.YtmihgbjfiigmlaaW.PrintWords Go.Proofs.YtmihgbjfiigmlaaW.PrintLast Go.Proofs.YtmihgbjfiigmlaaW.PrintMore

/-- The one number, if all are the same. -/
def pivL : List Nat → Int × Bool
  | [] => (0, false)
  | v :: t => if t.all (· == v) then ((v : Int), true) else (0, false)
theorem pivL_cons (v : Nat) (t : List Nat) : pivL (v :: t) = if t.all (· == v) then ((v : Int), true) else (0, false) := rfl
/-- A literal whose opposite a clause has. -/
def meets (b : List Int) (l : Int) : Bool := isL l && hasL b (wrap64 (-l))
def pivs (a b : List Int) : List Nat := (a.filter (meets b)).map Int.natAbs
/-- 17.2: the one variable by which two clauses can be resolved. -/
def pivotL (a b : List Int) : Int × Bool := pivL (pivs a b)
/-- What is left of two clauses without a literal and its opposite. -/
def parents (a b : List Int) (v : Int) : List Int := a.filter (· != v) ++ b.filter (· != wrap64 (-v))
def finR (c : List Int) : List Int × Int := if oppL (cleanL c) = true then ([], 4) else (cleanL c, 0)
/-- 17.2: what comes of two clauses by a literal. -/
def resolveL (a b : List Int) (v : Int) : List Int × Int := if (hasL a v && hasL b (wrap64 (-v))) = true then finR (parents a b v) else ([], 1)

theorem wneg {l : Int} (h : I64 l) (hl : isL l = true) : wrap64 (-l) = -l := by
  have := h.lo; have := h.hi; have := (of_decide_eq_true hl).2
  exact w64 (by omega) (by omega)
theorem isL_neg {l : Int} (h : I64 l) (hl : isL l = true) : isL (-l) = true ∧ I64 (-l) := by
  have := h.lo; have := h.hi; have h1 := of_decide_eq_true hl
  refine ⟨decide_eq_true (by omega), ?_⟩
  have a : IntKind.i64.min = -9223372036854775808 := by decide
  have b : IntKind.i64.max = 9223372036854775807 := by decide
  unfold I64 Lit.wf
  rw [Bool.and_eq_true, decide_eq_true_eq, decide_eq_true_eq]
  omega
theorem natAbs_pos_of_isL {l : Int} (hl : isL l = true) : l.natAbs ≠ 0 := by
  have := (of_decide_eq_true hl).1
  omega
theorem pivL_true {xs : List Nat} {v : Int} : pivL xs = (v, true) ↔ xs ≠ [] ∧ ∀ z ∈ xs, (z : Int) = v := by
  cases xs with
  | nil => simp [pivL]
  | cons x t =>
    rw [pivL_cons]
    by_cases h : t.all (· == x) = true
    · rw [if_pos h]
      have h' : ∀ z ∈ t, z = x := fun z hz => by simpa using List.all_eq_true.1 h z hz
      simp only [Prod.mk.injEq, and_true, ne_eq, reduceCtorEq, not_false_eq_true, true_and, List.mem_cons, forall_eq_or_imp]
      exact ⟨fun e => ⟨e, fun z hz => by rw [h' z hz]; exact e⟩, fun e => e.1⟩
    · rw [if_neg h]
      simp only [Prod.mk.injEq, Bool.false_eq_true, and_false, false_iff, not_and]
      intro _ h2
      refine h (List.all_eq_true.2 fun z hz => ?_)
      have e1 := h2 x (by simp)
      have e2 := h2 z (by simp [hz])
      rw [beq_iff_eq]; omega
theorem pivL_or (xs : List Nat) : (∃ v, pivL xs = (v, true)) ∨ pivL xs = (0, false) := by
  cases xs with
  | nil => exact .inr rfl
  | cons x t =>
    rw [pivL_cons]
    by_cases h : t.all (· == x) = true
    · rw [if_pos h]; exact .inl ⟨_, rfl⟩
    · rw [if_neg h]; exact .inr rfl
theorem pivL_ext {xs ys : List Nat} (h : ∀ v, v ∈ xs ↔ v ∈ ys) : pivL xs = pivL ys := by
  have go : ∀ {xs ys : List Nat}, (∀ v, v ∈ xs ↔ v ∈ ys) → ∀ v, pivL xs = (v, true) → pivL ys = (v, true) := fun {xs ys} h v e => by
    rw [pivL_true] at e ⊢
    refine ⟨fun e2 => ?_, fun z hz => e.2 z ((h z).2 hz)⟩
    subst e2
    exact e.1 (List.eq_nil_iff_forall_not_mem.2 fun a ha => by simpa using (h a).1 ha)
  rcases pivL_or xs with ⟨v, e⟩ | e
  · rw [e, go h v e]
  · rcases pivL_or ys with ⟨v, e2⟩ | e2
    · have := go (fun v => (h v).symm) v e2
      rw [e] at this; cases this
    · rw [e, e2]
theorem pivotL_clean (a b : List Int) : pivotL (cleanL a) b = pivotL a b := by
  refine pivL_ext fun v => ?_
  unfold pivs
  simp only [List.mem_map, List.mem_filter, cleanL_mem]
  constructor
  · rintro ⟨x, ⟨⟨h1, _⟩, h2⟩, rfl⟩; exact ⟨x, ⟨h1, h2⟩, rfl⟩
  · rintro ⟨x, ⟨h1, h2⟩, rfl⟩
    refine ⟨x, ⟨⟨h1, ?_⟩, h2⟩, rfl⟩
    unfold meets at h2; rw [Bool.and_eq_true] at h2; exact h2.1
theorem parents_good {a b : List Int} {v : Int} (ha : ∀ x ∈ a, I64 x) (hb : ∀ x ∈ b, I64 x) : ∀ x ∈ parents a b v, I64 x := fun x hx => by
  unfold parents at hx
  rcases List.mem_append.1 hx with h | h
  · exact ha x ((List.mem_filter.1 h).1)
  · exact hb x ((List.mem_filter.1 h).1)
theorem parents_length (a b : List Int) (v : Int) : (parents a b v).length ≤ a.length + b.length := by
  unfold parents
  rw [List.length_append]
  have := List.length_filter_le (· != v) a
  have := List.length_filter_le (· != wrap64 (-v)) b
  omega
theorem resolveL_length (a b : List Int) (v : Int) : (resolveL a b v).1.length ≤ a.length + b.length := by
  unfold resolveL finR
  split
  · split
    · simp
    · exact Nat.le_trans (cleanL_length _) (parents_length a b v)
  · simp
theorem resolveL_good {a b : List Int} {v : Int} (ha : ∀ x ∈ a, I64 x) (hb : ∀ x ∈ b, I64 x) : ∀ x ∈ (resolveL a b v).1, I64 x ∧ isL x = true := fun x hx => by
  unfold resolveL finR at hx
  split at hx
  · split at hx
    · cases hx
    · exact cleanL_good (parents_good ha hb) x hx
  · cases hx
/-- Cleaned is cleaned. -/
theorem cleanL_of_rising {l : List Int} (h : l.Pairwise (fun x y => aheadL x y = true)) (hl : ∀ x ∈ l, isL x = true) : cleanL l = l :=
  rising_ext _ _ (cleanL_rises l) h fun x => by rw [cleanL_mem]; exact ⟨fun h => h.1, fun h => ⟨h, hl x h⟩⟩
theorem cleanL_idem (c : List Int) : cleanL (cleanL c) = cleanL c :=
  cleanL_of_rising (cleanL_rises c) fun _ hx => (cleanL_mem.1 hx).2
theorem litT_isL {l : Int} {v : List Bool} (hv : v.length < 4611686018427387904) (h : litT l v = true) : isL l = true := by
  unfold litT at h
  simp only [Bool.and_eq_true, decide_eq_true_eq] at h
  exact decide_eq_true (by omega)
theorem litT_both {l : Int} {v : List Bool} (h : litT l v = true) (h' : litT (-l) v = true) : False := by
  unfold litT at h h'
  simp only [Bool.and_eq_true, decide_eq_true_eq, beq_iff_eq, Int.natAbs_neg] at h h'
  rw [h.2, decide_eq_decide] at h'
  omega
theorem holds_iff {c : List Int} {v : List Bool} : holds c v = true ↔ ∃ l ∈ c, litT l v = true := by
  unfold holds; rw [List.any_eq_true]
theorem holds_ext {c d : List Int} {v : List Bool} (hv : v.length < 4611686018427387904) (h : ∀ x, isL x = true → (x ∈ c ↔ x ∈ d)) : holds c v = holds d v := by
  rw [Bool.eq_iff_iff, holds_iff, holds_iff]
  constructor
  · rintro ⟨l, h1, h2⟩; exact ⟨l, (h l (litT_isL hv h2)).1 h1, h2⟩
  · rintro ⟨l, h1, h2⟩; exact ⟨l, (h l (litT_isL hv h2)).2 h1, h2⟩
theorem holds_clean {c : List Int} {v : List Bool} (hv : v.length < 4611686018427387904) : holds (cleanL c) v = holds c v :=
  holds_ext hv fun x hx => by rw [cleanL_mem]; exact ⟨fun h => h.1, fun h => ⟨h, hx⟩⟩
theorem withinL_iff {a b : List Int} : withinL a b = true ↔ ∀ x ∈ a, isL x = true → x ∈ b := by
  unfold withinL
  rw [List.all_eq_true]
  constructor
  · intro h x hx hl
    have := h x hx
    rw [hl, Bool.not_true, Bool.false_or] at this
    exact (hasL_iff.1 this).2
  · intro h x hx
    cases hl : isL x with
    | false => rfl
    | true => rw [Bool.not_true, Bool.false_or]; exact hasL_iff.2 ⟨hl, h x hx hl⟩
/-- 17.4: what is resolved holds by values by which both clauses do. -/
theorem resolve_holds {a b : List Int} {v : Int} {vs : List Bool} (hv : vs.length < 4611686018427387904) (ha : ∀ x ∈ a, I64 x) (hr : (resolveL a b v).2 = 0) (h1 : holds a vs = true) (h2 : holds b vs = true) : holds (resolveL a b v).1 vs = true := by
  unfold resolveL finR at hr ⊢
  by_cases hc : (hasL a v && hasL b (wrap64 (-v))) = true
  · rw [if_pos hc] at hr ⊢
    by_cases ho : oppL (cleanL (parents a b v)) = true
    · rw [if_pos ho] at hr; cases hr
    · rw [if_neg ho, holds_clean hv]
      rw [Bool.and_eq_true] at hc
      obtain ⟨hl, hm⟩ := hasL_iff.1 hc.1
      have hw := wneg (ha _ hm) hl
      rw [holds_iff] at h1 h2 ⊢
      obtain ⟨x, hx, tx⟩ := h1
      obtain ⟨y, hy, ty⟩ := h2
      by_cases ex : x = v
      · by_cases ey : y = wrap64 (-v)
        · subst ex
          rw [ey, hw] at ty
          exact (litT_both tx ty).elim
        · exact ⟨y, by unfold parents; rw [List.mem_append]; exact .inr (List.mem_filter.2 ⟨hy, by simpa using ey⟩), ty⟩
      · exact ⟨x, by unfold parents; rw [List.mem_append]; exact .inl (List.mem_filter.2 ⟨hx, by simpa using ex⟩), tx⟩
  · rw [if_neg hc] at hr; cases hr
end Go.Proofs.Ytmihgbjfiigmlaa.Pu

namespace Go.Proofs.Ytmihgbjfiigmlaa.Pu
open Go.RowKit Go.Proofs.Ytmihgbjfiigmlaa.P Go.Proofs.YtmihgbjfiigmlaaW.PrintWords Go.Proofs.YtmihgbjfiigmlaaW.PrintLast Go.Proofs.YtmihgbjfiigmlaaW.PrintMore

theorem Ints_loop (a b : List Int) (hl : a.length = b.length) (hs : a.length < 4611686018427387904) : ∀ (n i : Nat), n + i = a.length → Tells (fun k => sequiturbase_Ints.l0 k a b (i : Int)) (a.drop i == b.drop i)
  | 0, i, h => by
    refine Tells.succ (fun k => by rw [sequiturbase_Ints.l0]) (Tells.neg (by omega) ?_)
    rw [List.drop_of_length_le (by omega), List.drop_of_length_le (by omega)]; exact Tells.const _
  | n + 1, i, h => by
    refine Tells.succ (fun k => by rw [sequiturbase_Ints.l0]) (Tells.pos (by omega) (Tells.pos (by omega) (Tells.pos (by omega) ?_)))
    rw [rd_at _ _ (by omega : i < a.length), rd_at _ _ (by omega : i < b.length), w64s (by omega : i < a.length) hs,
      List.drop_eq_getElem_cons (by omega : i < a.length), List.drop_eq_getElem_cons (by omega : i < b.length), List.cons_beq_cons]
    by_cases e : a[i] = b[i]
    · refine Tells.pos e ?_
      rw [beq_iff_eq.2 e, Bool.true_and]
      exact Ints_loop a b hl hs n (i + 1) (by omega)
    · refine Tells.neg e ?_
      rw [beq_eq_false_iff_ne.mpr e, Bool.false_and]; exact Tells.const _
theorem Ints_tells (a b : List Int) (hs : a.length < 4611686018427387904) : Tells (fun k => sequiturbase_Ints.f k a b) (a == b) := by
  unfold sequiturbase_Ints.f
  by_cases h : a.length = b.length
  · exact Tells.pos (by omega) (Ints_loop a b h hs a.length 0 rfl)
  · refine Tells.neg (by omega) ?_
    rw [show (a == b) = false from beq_eq_false_iff_ne.mpr fun e => h (by rw [e])]
    exact Tells.const _
end Go.Proofs.Ytmihgbjfiigmlaa.Pu

namespace Go.Proofs.Ytmihgbjfiigmlaa.Pu
open Go.RowKit Go.Proofs.Ytmihgbjfiigmlaa.P Go.Proofs.YtmihgbjfiigmlaaW.PrintWords Go.Proofs.YtmihgbjfiigmlaaW.PrintLast Go.Proofs.YtmihgbjfiigmlaaW.PrintMore

theorem lit_Resolve_l1 (b : List Int) (v : Int) (hb : ∀ x ∈ b, I64 x) (N : Nat) (hN : N + b.length < 17592186044000) : ∀ (m i : Nat) (acc : List Int), m + i = b.length → acc.length ≤ N + i → (∀ x ∈ acc, I64 x) →
    Tells (fun k => lit_Resolve.l1 k v acc b (b.length : Int) (i : Int)) (finR (acc ++ (b.drop i).filter (· != wrap64 (-v))))
  | 0, i, acc, h, hl, hg => by
    refine Tells.succ (fun k => by rw [lit_Resolve.l1]) (Tells.neg (by omega) ?_)
    rw [List.drop_of_length_le (by omega), List.filter_nil, List.append_nil, lit_Clean_eq acc hg (by omega)]
    refine Tells.bind (Tells.const _) ?_
    unfold finR
    by_cases ho : oppL (cleanL acc) = true
    · rw [if_pos ho]; exact Tells.neg (by show ¬ (!oppL (cleanL acc)) = true; rw [ho]; decide) (Tells.const _)
    · rw [if_neg ho]; exact Tells.pos (by show (!oppL (cleanL acc)) = true; rw [Bool.eq_false_iff.2 ho]; rfl) (Tells.const _)
  | m + 1, i, acc, h, hl, hg => by
    have hi : i < b.length := by omega
    refine Tells.succ (fun k => by rw [lit_Resolve.l1]) (Tells.pos (by omega) (Tells.pos (by omega) (Tells.pos (by omega) ?_)))
    rw [rd_at _ _ hi, w64s hi (by omega), List.drop_eq_getElem_cons hi]
    by_cases e : b[i] = wrap64 (-v)
    · refine Tells.pos e ?_
      rw [List.filter_cons_of_neg (by simp [e])]
      exact lit_Resolve_l1 b v hb N hN m (i + 1) acc (by omega) (by omega) hg
    · refine Tells.neg e (Tells.pos (by omega) ?_)
      rw [List.filter_cons_of_pos (by simpa using e), List.append_cons acc b[i] (List.filter (· != wrap64 (-v)) (b.drop (i + 1)))]
      exact lit_Resolve_l1 b v hb N hN m (i + 1) (acc ++ [b[i]]) (by omega) (by simp; omega) (fun x hx => by
        rcases List.mem_append.1 hx with hx | hx
        · exact hg x hx
        · rw [List.mem_singleton.1 hx]; exact hb _ (List.getElem_mem hi))
theorem lit_Resolve_l0 (a b : List Int) (v : Int) (ha : ∀ x ∈ a, I64 x) (hb : ∀ x ∈ b, I64 x) (hN : a.length + b.length < 17592186044000) : ∀ (m i : Nat) (acc : List Int), m + i = a.length → acc.length ≤ i → (∀ x ∈ acc, I64 x) →
    Tells (fun k => lit_Resolve.l0 k b v acc a (a.length : Int) (i : Int)) (finR (acc ++ (a.drop i).filter (· != v) ++ b.filter (· != wrap64 (-v))))
  | 0, i, acc, h, hl, hg => by
    refine Tells.succ (fun k => by rw [lit_Resolve.l0]) (Tells.neg (by omega) ?_)
    rw [List.drop_of_length_le (by omega), List.filter_nil, List.append_nil]
    exact lit_Resolve_l1 b v hb a.length hN b.length 0 acc rfl (by omega) hg
  | m + 1, i, acc, h, hl, hg => by
    have hi : i < a.length := by omega
    refine Tells.succ (fun k => by rw [lit_Resolve.l0]) (Tells.pos (by omega) (Tells.pos (by omega) (Tells.pos (by omega) ?_)))
    rw [rd_at _ _ hi, w64s hi (by omega), List.drop_eq_getElem_cons hi]
    by_cases e : a[i] = v
    · refine Tells.pos e ?_
      rw [List.filter_cons_of_neg (by simp [e])]
      exact lit_Resolve_l0 a b v ha hb hN m (i + 1) acc (by omega) (by omega) hg
    · refine Tells.neg e (Tells.pos (by omega) ?_)
      rw [List.filter_cons_of_pos (by simpa using e), List.append_cons acc a[i] (List.filter (· != v) (a.drop (i + 1)))]
      exact lit_Resolve_l0 a b v ha hb hN m (i + 1) (acc ++ [a[i]]) (by omega) (by simp; omega) (fun x hx => by
        rcases List.mem_append.1 hx with hx | hx
        · exact hg x hx
        · rw [List.mem_singleton.1 hx]; exact ha _ (List.getElem_mem hi))
theorem lit_Resolve_tells (a b : List Int) (v : Int) (ha : ∀ x ∈ a, I64 x) (hb : ∀ x ∈ b, I64 x) (hN : a.length + b.length < 17592186044000) : Tells (fun k => lit_Resolve.f k a b v) (resolveL a b v) := by
  unfold lit_Resolve.f resolveL
  refine Tells.bind (lit_Has_tells a v (by omega)) ?_
  by_cases h1 : hasL a v = true
  · refine Tells.pos h1 (Tells.bind (lit_Has_tells b _ (by omega)) ?_)
    by_cases h2 : hasL b (wrap64 (-v)) = true
    · rw [h1, h2, if_pos (by rfl)]
      refine Tells.succ (fun k => by rw [lit_Resolve.j0]) (Tells.neg (by decide) ?_)
      exact lit_Resolve_l0 a b v ha hb hN a.length 0 [] rfl (by simp) (by simp)
    · rw [Bool.eq_false_iff.2 h2, Bool.and_false, if_neg (by decide)]
      exact Tells.succ (fun k => by rw [lit_Resolve.j0]) (Tells.pos (by rfl) (Tells.const _))
  · rw [Bool.eq_false_iff.2 h1, Bool.false_and, if_neg (by decide)]
    exact Tells.neg (by decide) (Tells.succ (fun k => by rw [lit_Resolve.j0]) (Tells.pos (by rfl) (Tells.const _)))
theorem i64_lit {n : Int} (h : (Lit.int .i64 n).wf = true) : I64 n := h
theorem res17_ex : resolveL [1, 2] [-1, 3] 1 = ([2, 3], 0) := by
  unfold resolveL parents
  rw [show wrap64 (-1) = -1 by unfold wrap64; decide]
  decide
theorem alive17 : Tells (fun k => sequiturlaw17_alive.f k) true := by
  have e1 : cleanL [3, -1, 3] = [-1, 3] ∧ oppL [-1, 3] = false := by decide
  unfold sequiturlaw17_alive.f
  rw [lit_Clean_eq [3, -1, 3] (by unfold I64; decide) (by decide), e1.1, e1.2]
  have h := lit_Resolve_tells [1, 2] [-1, 3] 1 (by unfold I64; decide) (by unfold I64; decide) (by decide)
  rw [res17_ex] at h
  refine Tells.bind (Tells.const _) (Tells.bind h (Tells.pos (by decide) (Tells.pos rfl ?_)))
  exact Tells.bind (Ints_tells [-1, 3] [-1, 3] (by decide)) (Tells.pos (by decide) (Tells.bind (v := true) (by have := Ints_tells [2, 3] [2, 3] (by decide); exact this) (Tells.const _)))
end Go.Proofs.Ytmihgbjfiigmlaa.Pu

namespace Go.Proofs.Ytmihgbjfiigmlaa.Pu
open Go.RowKit Go.Proofs.Ytmihgbjfiigmlaa.P Go.Proofs.YtmihgbjfiigmlaaW.PrintWords Go.Proofs.YtmihgbjfiigmlaaW.PrintLast Go.Proofs.YtmihgbjfiigmlaaW.PrintMore

theorem lit_Pivot_loop (a b : List Int) (ha : ∀ x ∈ a, I64 x) (hs : a.length < 4611686018427387904) (hbs : b.length < 4611686018427387904) : ∀ (m i found : Nat), m + i = a.length →
    Tells (fun k => lit_Pivot.l0 k b (found : Int) a (a.length : Int) (i : Int)) (if found = 0 then pivL (pivs (a.drop i) b) else if (pivs (a.drop i) b).all (· == found) = true then ((found : Int), true) else (0, false))
  | 0, i, found, h => by
    refine Tells.succ (fun k => by rw [lit_Pivot.l0]) (Tells.neg (by omega) ?_)
    rw [List.drop_of_length_le (by omega)]
    by_cases e : found = 0
    · subst e; rw [if_pos rfl]; exact Tells.const _
    · rw [if_neg e, show pivs [] b = [] from rfl, if_pos (by rfl), show ((found : Int) != 0) = true by simpa using e]; exact Tells.const _
  | m + 1, i, found, h => by
    have hi : i < a.length := by omega
    have hx := ha _ (List.getElem_mem hi)
    have ih := fun f => lit_Pivot_loop a b ha hs hbs m (i + 1) f (by omega)
    refine Tells.succ (fun k => by rw [lit_Pivot.l0]) (Tells.pos (by omega) (Tells.pos (by omega) (Tells.pos (by omega) ?_)))
    rw [rd_at _ _ hi, List.drop_eq_getElem_cons hi, lit_is_isL]
    have skip : meets b a[i] = false → Tells (fun k => lit_Pivot.j1 k b (found : Int) a[i] a (a.length : Int) (i : Int) true) (if found = 0 then pivL (pivs (a[i] :: a.drop (i + 1)) b) else if (pivs (a[i] :: a.drop (i + 1)) b).all (· == found) = true then ((found : Int), true) else (0, false)) := fun e => by
      refine Tells.succ (fun k => by rw [lit_Pivot.j1]) (Tells.pos rfl ?_)
      rw [w64s hi hs, show pivs (a[i] :: a.drop (i + 1)) b = pivs (a.drop (i + 1)) b by unfold pivs; rw [List.filter_cons_of_neg (by simp [e])]]
      exact ih found
    refine Tells.bind (Tells.const _) ?_
    by_cases hl : isL a[i] = true
    · refine Tells.pos hl (Tells.bind (lit_Has_tells b _ hbs) ?_)
      by_cases hh : hasL b (wrap64 (-a[i])) = true
      · refine Tells.pos hh ?_
        have hm := (of_decide_eq_true hl).2
        have hz := natAbs_pos_of_isL hl
        rw [lit_variable_eq hx hm]
        refine Tells.bind (Tells.const _) ?_
        have hp : pivs (a[i] :: a.drop (i + 1)) b = a[i].natAbs :: pivs (a.drop (i + 1)) b := by
          unfold pivs
          rw [List.filter_cons_of_pos (by unfold meets; rw [hl, hh]; rfl)]; rfl
        rw [hp]
        refine Tells.succ (fun k => by rw [lit_Pivot.j1]) ?_
        by_cases e : a[i].natAbs = found
        · refine Tells.pos (by rw [e]; simp) ?_
          rw [w64s hi hs, if_neg (by omega), List.all_cons, beq_iff_eq.2 e, Bool.true_and]
          have := ih found
          rw [if_neg (by omega)] at this
          exact this
        · refine Tells.neg (by rw [beq_iff_eq]; omega) ?_
          by_cases e0 : found = 0
          · refine Tells.pos (by omega) ?_
            rw [lit_variable_eq hx hm, if_pos e0]
            refine Tells.bind (Tells.const _) ?_
            rw [w64s hi hs]
            have := ih a[i].natAbs
            rw [if_neg hz] at this
            exact this
          · refine Tells.neg (by omega) ?_
            rw [if_neg e0, List.all_cons, beq_eq_false_iff_ne.2 e, Bool.false_and, if_neg (by decide)]
            exact Tells.const _
      · refine Tells.neg hh (skip ?_)
        unfold meets; rw [hl, Bool.eq_false_iff.2 hh]; rfl
    · refine Tells.neg hl (skip ?_)
      unfold meets; rw [Bool.eq_false_iff.2 hl]; rfl
theorem lit_Pivot_tells (a b : List Int) (ha : ∀ x ∈ a, I64 x) (hs : a.length < 4611686018427387904) (hbs : b.length < 4611686018427387904) : Tells (fun k => lit_Pivot.f k a b) (pivotL a b) := by
  have := lit_Pivot_loop a b ha hs hbs a.length 0 0 rfl
  rw [if_pos rfl] at this
  exact this
end Go.Proofs.Ytmihgbjfiigmlaa.Pu

namespace Go.Proofs.Ytmihgbjfiigmlaa.Pu
open Go.RowKit Go.Proofs.Ytmihgbjfiigmlaa.P Go.Proofs.YtmihgbjfiigmlaaW.PrintWords Go.Proofs.YtmihgbjfiigmlaaW.PrintLast Go.Proofs.YtmihgbjfiigmlaaW.PrintMore

/-- By which literal two clauses are resolved. -/
def byL (now c : List Int) (v : Int) : Int := if (hasL now v && hasL c (wrap64 (-v))) = true then v else wrap64 (-v)
theorem byL_pos {now c : List Int} {v : Int} (h : (hasL now v && hasL c (wrap64 (-v))) = true) : byL now c v = v := if_pos h
theorem byL_neg {now c : List Int} {v : Int} (h : (hasL now v && hasL c (wrap64 (-v))) = false) : byL now c v = wrap64 (-v) := if_neg (by rw [h]; decide)
/-- What comes of two clauses by their one variable; an error. -/
def nextL (now c : List Int) : List Int × Int := if (pivotL now c).2 = true then resolveL now c (byL now c (pivotL now c).1) else ([], 30)
/-- A chain from a place on. -/
def goS (cs : List (List Int)) (cl : List Int) : List Int → Nat → List Int → List Int × Int × Int
  | [], _, now => if withinL now cl = true then (now, 0, 0) else ([], 0, 30)
  | k :: t, i, now => if k < 0 ∨ (cs.length : Int) ≤ k then ([], (i : Int), 3)
    else if i = 0 then goS cs cl t 1 (cleanL (cs.getD k.toNat []))
    else if (nextL now (cs.getD k.toNat [])).2 = 0 then goS cs cl t (i + 1) (nextL now (cs.getD k.toNat [])).1 else ([], (i : Int), 30)
/-- 24.1: what a chain gives. -/
def stepL (cs : List (List Int)) (n : Int) (cl fr : List Int) : List Int × Int × Int :=
  if clauseErr cl n = 0 then (if fr.length = 0 then ([], 0, 3) else goS cs cl fr 0 []) else ([], 0, clauseErr cl n)

theorem getD_good {cs : List (List Int)} {M : Nat} (h : ∀ c ∈ cs, c.length ≤ M ∧ ∀ x ∈ c, I64 x) (j : Nat) : (cs.getD j []).length ≤ M ∧ ∀ x ∈ cs.getD j [], I64 x := by
  by_cases hj : j < cs.length
  · rw [List.getD_eq_getElem?_getD, List.getElem?_eq_getElem hj, Option.getD_some]
    exact h _ (List.getElem_mem hj)
  · rw [List.getD_eq_getElem?_getD, List.getElem?_eq_none (by omega), Option.getD_none]
    exact ⟨by simp, by simp⟩
theorem rdL_getD {cs : List (List Int)} {k : Int} (h0 : 0 ≤ k) (h1 : k < (cs.length : Int)) : rd_L3 cs k = cs.getD k.toNat [] := by
  obtain ⟨j, rfl⟩ := Int.eq_ofNat_of_zero_le h0
  have hj : j < cs.length := by omega
  rw [rdL_at _ _ hj, Int.toNat_natCast, List.getD_eq_getElem?_getD, List.getElem?_eq_getElem hj, Option.getD_some]
theorem nextL_length (now c : List Int) : (nextL now c).1.length ≤ now.length + c.length := by
  unfold nextL
  split
  · exact resolveL_length _ _ _
  · simp
theorem nextL_good {now c : List Int} (ha : ∀ x ∈ now, I64 x) (hb : ∀ x ∈ c, I64 x) : ∀ x ∈ (nextL now c).1, I64 x ∧ isL x = true := fun x hx => by
  unfold nextL at hx
  split at hx
  · exact resolveL_good ha hb x hx
  · cases hx
theorem chain_Step_loop (cs : List (List Int)) (cl fr : List Int) (M : Nat) (hcs : ∀ c ∈ cs, c.length ≤ M ∧ ∀ x ∈ c, I64 x) (hcl : cl.length < 4611686018427387904) (hf : fr.length * M + M < 17592186044000) (hfs : fr.length < 4611686018427387904) :
    ∀ (m i : Nat) (now : List Int), m + i = fr.length → now.length ≤ i * M → (∀ x ∈ now, I64 x) → Tells (fun k => chain_Step.l0 k cs now fr (fr.length : Int) (i : Int) cl fr) (goS cs cl (fr.drop i) i now)
  | 0, i, now, h, hl, hg => by
    have hi : i = fr.length := by omega
    subst hi
    refine Tells.succ (fun k => by rw [chain_Step.l0]) (Tells.neg (by omega) ?_)
    rw [List.drop_of_length_le (by omega), goS]
    refine Tells.bind (lit_Within_tells now cl (by omega) hcl) ?_
    by_cases hw : withinL now cl = true
    · rw [if_pos hw, if_pos hw]; exact Tells.const _
    · rw [if_neg hw, if_neg hw]; exact Tells.const _
  | m + 1, i, now, h, hl, hg => by
    have hi : i < fr.length := by omega
    have hmul : (i + 1) * M ≤ fr.length * M := Nat.mul_le_mul_right M hi
    rw [Nat.add_mul, Nat.one_mul] at hmul
    refine Tells.succ (fun k => by rw [chain_Step.l0]) (Tells.pos (by omega) (Tells.pos (by omega) (Tells.pos (by omega) ?_)))
    rw [rd_at _ _ hi, List.drop_eq_getElem_cons hi, goS]
    obtain ⟨q, hq⟩ : ∃ q, fr[i] = q := ⟨_, rfl⟩
    rw [hq]
    have bad : (q < 0 ∨ (cs.length : Int) ≤ q) → Tells (fun k => chain_Step.j1 k cs now (i : Int) q fr (fr.length : Int) (i : Int) true cl fr) (if q < 0 ∨ (cs.length : Int) ≤ q then ([], (i : Int), 3)
        else if i = 0 then goS cs cl (fr.drop (i + 1)) 1 (cleanL (cs.getD q.toNat []))
        else if (nextL now (cs.getD q.toNat [])).2 = 0 then goS cs cl (fr.drop (i + 1)) (i + 1) (nextL now (cs.getD q.toNat [])).1 else ([], (i : Int), 30)) := fun hb => by
      rw [if_pos hb]
      refine Tells.succ (fun k => by rw [chain_Step.j1]) ?_
      exact Tells.pos rfl (Tells.const _)
    by_cases hn : q < 0
    · exact Tells.pos hn (bad (.inl hn))
    refine Tells.neg hn ?_
    by_cases hge : q ≥ (cs.length : Int)
    · rw [decide_eq_true hge]; exact bad (.inr hge)
    rw [decide_eq_false hge, if_neg (by omega)]
    refine Tells.succ (fun k => by rw [chain_Step.j1]) (Tells.neg (by decide) ?_)
    rw [rdL_getD (by omega) (by omega), w64s hi hfs]
    obtain ⟨hcM, hcg⟩ := getD_good hcs q.toNat
    obtain ⟨c, hc⟩ : ∃ c, cs.getD q.toNat [] = c := ⟨_, rfl⟩
    rw [hc] at hcM hcg ⊢
    by_cases h0 : i = 0
    · subst h0
      rw [if_pos rfl, lit_Clean_eq c hcg (by omega)]
      refine Tells.pos rfl (Tells.pos (by omega) (Tells.pos (by omega) (Tells.bind (Tells.const _) ?_)))
      exact chain_Step_loop cs cl fr M hcs hcl hf hfs m 1 (cleanL c) (by omega) (by have := cleanL_length c; omega) (fun x hx => (cleanL_good hcg x hx).1)
    · rw [if_neg h0]
      refine Tells.neg (by omega) (Tells.pos (by omega) (Tells.pos (by omega) (Tells.bind (lit_Pivot_tells now c hg (by omega) (by omega)) ?_)))
      unfold nextL
      by_cases hp : (pivotL now c).2 = true
      · rw [if_pos hp]
        refine Tells.pos hp ?_
        obtain ⟨v, hv⟩ : ∃ v, (pivotL now c).1 = v := ⟨_, rfl⟩
        rw [hv]
        have hlen := resolveL_length now c
        have hgood := fun v => resolveL_good (v := v) hg hcg
        have ih := fun v => chain_Step_loop cs cl fr M hcs hcl hf hfs m (i + 1) (resolveL now c v).1 (by omega) (by rw [Nat.add_mul, Nat.one_mul]; have := hlen v; omega) (fun x hx => (hgood v x hx).1)
        have fin : ∀ u, Tells (fun k => (lit_Resolve.f k now c u).bind fun bt => if bt.2 = 0 then chain_Step.l0 k cs bt.1 fr (fr.length : Int) ((i + 1 : Nat) : Int) cl fr else some (([] : List Int), (i : Int), 30))
            (if (resolveL now c u).2 = 0 then goS cs cl (fr.drop (i + 1)) (i + 1) (resolveL now c u).1 else ([], (i : Int), 30)) := fun u => by
          refine Tells.bind (lit_Resolve_tells now c u hg hcg (by omega)) ?_
          by_cases he : (resolveL now c u).2 = 0
          · rw [if_pos he]; exact Tells.pos he (ih u)
          · rw [if_neg he]; exact Tells.neg he (Tells.const _)
        have no : (hasL now v && hasL c (wrap64 (-v))) = false → Tells (fun k => chain_Step.j2 k cs now (i : Int) q v fr (fr.length : Int) (i : Int) true cl fr) (if (resolveL now c (byL now c v)).2 = 0 then goS cs cl (fr.drop (i + 1)) (i + 1) (resolveL now c (byL now c v)).1 else ([], (i : Int), 30)) := fun e => by
          rw [byL_neg e]
          refine Tells.succ (fun k => by rw [chain_Step.j2]) (Tells.pos rfl (Tells.pos (by omega) (Tells.pos (by omega) ?_)))
          rw [rdL_getD (by omega) (by omega), w64s hi hfs, hc]
          exact fin _
        refine Tells.bind (lit_Has_tells now v (by omega)) ?_
        by_cases h1 : hasL now v = true
        · refine Tells.pos h1 (Tells.bind (lit_Has_tells c _ (by omega)) ?_)
          by_cases h2 : hasL c (wrap64 (-v)) = true
          · rw [byL_pos (by rw [h1, h2]; rfl), h2]
            refine Tells.succ (fun k => by rw [chain_Step.j2]) (Tells.neg (by decide) (Tells.pos (by omega) (Tells.pos (by omega) ?_)))
            rw [rdL_getD (by omega) (by omega), w64s hi hfs, hc]
            exact fin _
          · have := no (by rw [Bool.eq_false_iff.2 h2, Bool.and_false])
            rw [Bool.eq_false_iff.2 h2]
            exact this
        · exact Tells.neg h1 (no (by rw [Bool.eq_false_iff.2 h1, Bool.false_and]))
      · rw [if_neg hp, if_neg (by decide)]
        exact Tells.neg hp (Tells.const _)
theorem chain_Step_tells (cs : List (List Int)) (n : Int) (cl fr : List Int) (M : Nat) (hcs : ∀ c ∈ cs, c.length ≤ M ∧ ∀ x ∈ c, I64 x) (hn : I64 n) (hcg : ∀ x ∈ cl, I64 x) (hcl : cl.length < 4611686018427387904) (hf : fr.length * M + M < 17592186044000) (hfs : fr.length < 4611686018427387904) :
    Tells (fun k => chain_Step.f k cs n cl fr) (stepL cs n cl fr) := by
  unfold chain_Step.f stepL
  refine Tells.bind (lit_Right_tells cl n hcg hn hcl) ?_
  by_cases he : clauseErr cl n = 0
  · rw [if_pos he]
    refine Tells.pos he ?_
    by_cases h0 : fr.length = 0
    · rw [if_pos h0]; exact Tells.pos (by omega) (Tells.const _)
    · rw [if_neg h0]
      exact Tells.neg (by omega) (chain_Step_loop cs cl fr M hcs hcl hf hfs fr.length 0 [] rfl (by simp) (by simp))
  · rw [if_neg he]; exact Tells.neg he (Tells.const _)
theorem step_ex1 : stepL [[1, 2], [-1, 2]] 2 [2] [0, 1] = ([2], 0, 0) := by decide +kernel
theorem step_ex2 : stepL [[1, 2], [-1, -2]] 2 [2] [0, 1] = ([], 1, 30) := by decide +kernel
theorem alive24 : Tells (fun k => sequiturlaw24_alive.f k) true := by
  unfold sequiturlaw24_alive.f
  have h1 := chain_Step_tells [[1, 2], [-1, 2]] 2 [2] [0, 1] 2 (by unfold I64; decide) (by unfold I64; decide) (by unfold I64; decide) (by decide) (by decide) (by decide)
  have h2 := chain_Step_tells [[1, 2], [-1, -2]] 2 [2] [0, 1] 2 (by unfold I64; decide) (by unfold I64; decide) (by unfold I64; decide) (by decide) (by decide) (by decide)
  rw [step_ex1] at h1
  rw [step_ex2] at h2
  refine Tells.bind h1 (Tells.bind h2 (Tells.bind (Ints_tells [2] [2] (by decide)) (Tells.pos (by decide) (Tells.pos rfl (Tells.pos rfl ?_)))))
  exact Tells.const true
end Go.Proofs.Ytmihgbjfiigmlaa.Pu

namespace Go.Proofs.Ytmihgbjfiigmlaa.Pu
open Go.RowKit Go.Proofs.Ytmihgbjfiigmlaa.P Go.Proofs.YtmihgbjfiigmlaaW.PrintWords Go.Proofs.YtmihgbjfiigmlaaW.PrintLast Go.Proofs.YtmihgbjfiigmlaaW.PrintMore

theorem cnf_Right_loop (l : List (List Int)) (n : Int) (hl : Rows64 l) (hn : I64 n) : ∀ (m i : Nat), m + i = l.length →
    ∃ x, Tells (fun k => cnf_Right.l0 k l (l.length : Int) (i : Int) n l) (x, clausesErr n (l.drop i))
  | 0, i, h => by
    refine ⟨0, Tells.succ (fun k => by rw [cnf_Right.l0]) (Tells.neg (by omega) ?_)⟩
    rw [List.drop_of_length_le (by omega)]; exact Tells.const _
  | m + 1, i, h => by
    have hi : i < l.length := by omega
    have hc := hl.2 _ (List.getElem_mem hi)
    have hR := lit_Right_tells l[i] n hc.2 hn hc.1
    rw [List.drop_eq_getElem_cons hi, clausesErr]
    by_cases hz : clauseErr l[i] n = 0
    · obtain ⟨x, hx⟩ := cnf_Right_loop l n hl hn m (i + 1) (by omega)
      refine ⟨x, Tells.succ (fun k => by rw [cnf_Right.l0]) (Tells.pos (by omega) (Tells.pos (by omega) (Tells.pos (by omega) ?_)))⟩
      rw [rdL_at _ _ hi, w64s hi hl.1]
      refine Tells.bind hR (Tells.pos hz ?_)
      rw [if_pos hz]; exact hx
    · refine ⟨(i : Int), Tells.succ (fun k => by rw [cnf_Right.l0]) (Tells.pos (by omega) (Tells.pos (by omega) (Tells.pos (by omega) ?_)))⟩
      rw [rdL_at _ _ hi]
      refine Tells.bind hR (Tells.neg hz ?_)
      rw [if_neg hz]; exact Tells.const _
theorem cnf_Right_tells (n : Int) (l : List (List Int)) (hl : Rows64 l) (hn : I64 n) : ∃ x, Tells (fun k => cnf_Right.f k n l) (x, setErr n l) := by
  unfold cnf_Right.f setErr
  have stop : ∀ n : Int, Tells (fun k => cnf_Right.j0 k true n l) (-1, 1) := fun n => Tells.succ (fun k => by rw [cnf_Right.j0]) (Tells.pos rfl (Tells.const _))
  by_cases h0 : n < 0
  · rw [if_pos (by omega)]
    exact ⟨_, Tells.pos h0 (stop n)⟩
  by_cases h1 : n > 1024
  · rw [if_pos (by omega)]
    refine ⟨-1, Tells.neg h0 ?_⟩
    rw [decide_eq_true h1]; exact stop n
  rw [if_neg (by omega)]
  by_cases h2 : l.length > 4096
  · rw [if_pos h2]
    refine ⟨-1, Tells.neg h0 ?_⟩
    rw [decide_eq_false h1]
    exact Tells.succ (fun k => by rw [cnf_Right.j0]) (Tells.neg (by decide) (Tells.pos (by omega) (Tells.const _)))
  · rw [if_neg h2]
    obtain ⟨x, hx⟩ : ∃ x, Tells (fun k => cnf_Right.l0 k l (l.length : Int) 0 n l) (x, clausesErr n l) := cnf_Right_loop l n hl hn l.length 0 rfl
    refine ⟨x, Tells.neg h0 ?_⟩
    rw [decide_eq_false h1]
    exact Tells.succ (fun k => by rw [cnf_Right.j0]) (Tells.neg (by decide) (Tells.neg (by omega) hx))
end Go.Proofs.Ytmihgbjfiigmlaa.Pu

namespace Go.Proofs.Ytmihgbjfiigmlaa.Pu
open Go.RowKit Go.Proofs.Ytmihgbjfiigmlaa.P
theorem ixAny {α : Type} (p : α → Bool) : ∀ (l : List α) (i : Nat), decide (0 ≤ ixOf p l (i : Int)) = l.any p
  | [], i => rfl
  | x :: l, i => by
    rw [ixOf, List.any_cons]
    by_cases h : p x = true
    · rw [if_pos h, h, Bool.true_or]; exact decide_eq_true (by omega)
    · rw [if_neg h, Bool.eq_false_iff.2 h, Bool.false_or]
      exact ixAny p l (i + 1)
end Go.Proofs.Ytmihgbjfiigmlaa.Pu

namespace Go.Proofs.Ytmihgbjfiigmlaa.Pu
open Go.RowKit Go.Proofs.Ytmihgbjfiigmlaa.P Go.Proofs.YtmihgbjfiigmlaaW.PrintWords Go.Proofs.YtmihgbjfiigmlaaW.PrintLast Go.Proofs.YtmihgbjfiigmlaaW.PrintMore

/-- Chains from one on: the first error and its place. -/
def goC (n : Int) : List S43 → Nat → List (List Int) → Int × Int
  | [], _, _ => (0, 0)
  | x :: t, i, all => if (stepL all n x.f0 x.f1).2.2 = 0 then goC n t (i + 1) (all ++ [x.f0]) else ((i : Int), (stepL all n x.f0 x.f1).2.2)
/-- 24.2: the first chain that does not hold. -/
def checkL (n : Int) (l : List (List Int)) (ch : List S43) : Int × Int := if setErr n l = 0 then (if (ch.length : Int) > 4096 then (-1, 2) else goC n ch 0 l) else (-1, setErr n l)
/-- There is an empty clause. -/
def endsL (l : List (List Int)) (ch : List S43) : Bool := l.any nilL || ch.any endsE
/-- 24.2: whether chains refute. -/
def refutesL (n : Int) (l : List (List Int)) (ch : List S43) : Int × Int := if (checkL n l ch).2 = 0 then (if endsL l ch = true then (0, 0) else ((ch.length : Int), 24)) else checkL n l ch
/-- What clauses and chains have at most. -/
structure Fits (M F : Nat) (l : List (List Int)) (ch : List S43) : Prop where
  cs : ∀ c ∈ l, c.length ≤ M ∧ ∀ x ∈ c, I64 x
  ch : ∀ x ∈ ch, x.f0.length ≤ M ∧ x.f1.length ≤ F ∧ ∀ y ∈ x.f0, I64 y
  lim : F * M + M < 17592186044000
  limF : F < 4611686018427387904
theorem Fits.tail {M F : Nat} {l : List (List Int)} {x : S43} {t : List S43} (h : Fits M F l (x :: t)) : Fits M F (l ++ [x.f0]) t := by
  refine ⟨fun c hc => ?_, fun y hy => h.ch y (List.mem_cons_of_mem _ hy), h.lim, h.limF⟩
  rcases List.mem_append.1 hc with hc | hc
  · exact h.cs c hc
  · rw [List.mem_singleton.1 hc]
    have := h.ch x (by simp)
    exact ⟨this.1, this.2.2⟩
theorem Fits.step {M F : Nat} {l : List (List Int)} {x : S43} {t : List S43} (h : Fits M F l (x :: t)) : x.f1.length * M + M < 17592186044000 ∧ x.f1.length < 4611686018427387904 ∧ x.f0.length < 4611686018427387904 := by
  have h1 := h.ch x (by simp)
  have h2 : x.f1.length * M ≤ F * M := Nat.mul_le_mul_right M h1.2.1
  have h3 := h.lim
  have h4 := h.limF
  exact ⟨by omega, by omega, by omega⟩
theorem chain_Check_loop (n : Int) (M F : Nat) (hn : I64 n) : ∀ (ch : List S43) (i : Nat) (all : List (List Int)), Fits M F all ch → all.length + ch.length < 5864062014805 →
    Tells (fun k => chain_Check.l1 k n ch (i : Int) all) (goC n ch i all)
  | [], i, all, _, _ => Tells.of_eq fun k => by rw [chain_Check.l1, goC]
  | x :: t, i, all, hf, hs => by
    obtain ⟨h1, h2, h3⟩ := hf.step
    refine Tells.congr (fun k => by rw [chain_Check.l1]) ?_
    rw [goC]
    refine Tells.bind (chain_Step_tells all n x.f0 x.f1 M hf.cs hn (hf.ch x (by simp)).2.2 h3 h1 h2) ?_
    by_cases he : (stepL all n x.f0 x.f1).2.2 = 0
    · rw [if_pos he]
      refine Tells.pos he (Tells.pos (by simp at hs; omega) ?_)
      have := chain_Check_loop n M F hn t (i + 1) (all ++ [x.f0]) hf.tail (by simp at hs ⊢; omega)
      rw [show ((i : Int) + 1) = ((i + 1 : Nat) : Int) by omega]
      exact this
    · rw [if_neg he]
      exact Tells.neg he (Tells.const _)
theorem chain_Check_tells (n : Int) (l : List (List Int)) (ch : List S43) (M F : Nat) (hn : I64 n) (hl : Rows64 l) (hf : Fits M F l ch) : Tells (fun k => chain_Check.f k n l ch) (checkL n l ch) := by
  unfold chain_Check.f checkL
  obtain ⟨x, hx⟩ := cnf_Right_tells n l hl hn
  refine Tells.bind hx ?_
  by_cases he : setErr n l = 0
  · rw [if_pos he]
    refine Tells.pos he ?_
    by_cases hc : (ch.length : Int) > 4096
    · rw [if_pos hc]; exact Tells.pos hc (Tells.const _)
    · rw [if_neg hc]
      have hlen : l.length ≤ 4096 := by
        refine Decidable.byContradiction fun h => ?_
        unfold setErr at he
        split at he
        · cases he
        · rw [if_pos (by omega)] at he; cases he
      exact Tells.neg hc (chain_Check_loop n M F hn ch 0 l hf (by omega))
  · rw [if_neg he]
    exact Tells.neg he (Tells.const _)
theorem chain_Refutes_tells (n : Int) (l : List (List Int)) (ch : List S43) (M F : Nat) (hn : I64 n) (hl : Rows64 l) (hf : Fits M F l ch) : Tells (fun k => chain_Refutes.f k n l ch) (refutesL n l ch) := by
  unfold chain_Refutes.f refutesL
  refine Tells.bind (chain_Check_tells n l ch M F hn hl hf) ?_
  have e1 : decide (0 ≤ ixOf nilL l 0) = l.any nilL := ixAny nilL l 0
  have e2 : decide (0 ≤ ixOf endsE ch 0) = ch.any endsE := ixAny endsE ch 0
  rw [e1, e2]
  refine Tells.ite (fun he => ?_) (fun he => Tells.const _)
  unfold endsL
  cases h1 : l.any nilL with
  | true => exact Tells.const _
  | false =>
    cases h2 : ch.any endsE with
    | true => exact Tells.const _
    | false => exact Tells.const _
/-- What a chain gives holds by values by which the clauses do. -/
theorem goS_holds {cs : List (List Int)} {cl : List Int} {v : List Bool} (hv : v.length < 4611686018427387904) (hcs : ∀ c ∈ cs, (∀ x ∈ c, I64 x) ∧ holds c v = true) : ∀ (fr : List Int) (i : Nat) (now : List Int), (∀ x ∈ now, I64 x) → (i ≠ 0 → holds now v = true) → (i = 0 → fr ≠ []) →
    (goS cs cl fr i now).2.2 = 0 → holds cl v = true
  | [], i, now, hg, h1, h0, h => by
    have hi : i ≠ 0 := fun e => h0 e rfl
    rw [goS] at h
    by_cases hw : withinL now cl = true
    · have h1 := h1 hi
      rw [holds_iff] at h1 ⊢
      obtain ⟨x, hx, ht⟩ := h1
      exact ⟨x, withinL_iff.1 hw x hx (litT_isL hv ht), ht⟩
    · rw [if_neg hw] at h; cases h
  | q :: t, i, now, hg, h1, h0, h => by
    rw [goS] at h
    by_cases hb : q < 0 ∨ (cs.length : Int) ≤ q
    · rw [if_pos hb] at h; cases h
    · rw [if_neg hb] at h
      have hq : q.toNat < cs.length := by omega
      have hm : cs.getD q.toNat [] ∈ cs := by
        rw [List.getD_eq_getElem?_getD, List.getElem?_eq_getElem hq, Option.getD_some]
        exact List.getElem_mem hq
      obtain ⟨hcg, hch⟩ := hcs _ hm
      obtain ⟨c, hc⟩ : ∃ c, cs.getD q.toNat [] = c := ⟨_, rfl⟩
      rw [hc] at h hcg hch
      by_cases hi : i = 0
      · rw [if_pos hi] at h
        exact goS_holds hv hcs t 1 (cleanL c) (fun x hx => (cleanL_good hcg x hx).1) (fun _ => by rw [holds_clean hv]; exact hch) (fun e => by cases e) h
      · rw [if_neg hi] at h
        by_cases he : (nextL now c).2 = 0
        · rw [if_pos he] at h
          have hh : holds (nextL now c).1 v = true := by
            unfold nextL at he ⊢
            by_cases hp : (pivotL now c).2 = true
            · rw [if_pos hp] at he ⊢
              exact resolve_holds hv hg he (h1 hi) hch
            · rw [if_neg hp] at he; cases he
          exact goS_holds hv hcs t (i + 1) _ (fun x hx => (nextL_good hg hcg x hx).1) (fun _ => hh) (fun e => by omega) h
        · rw [if_neg he] at h; cases h
theorem stepL_holds {cs : List (List Int)} {n : Int} {cl fr : List Int} {v : List Bool} (hv : v.length < 4611686018427387904) (hcs : ∀ c ∈ cs, (∀ x ∈ c, I64 x) ∧ holds c v = true) (h : (stepL cs n cl fr).2.2 = 0) : holds cl v = true := by
  unfold stepL at h
  by_cases he : clauseErr cl n = 0
  · rw [if_pos he] at h
    by_cases h0 : fr.length = 0
    · rw [if_pos h0] at h; cases h
    · rw [if_neg h0] at h
      exact goS_holds hv hcs fr 0 [] (by simp) (fun h => absurd rfl h) (fun _ e => h0 (by rw [e]; rfl)) h
  · rw [if_neg he] at h
    exact absurd h he
theorem goC_holds {n : Int} {v : List Bool} (hv : v.length < 4611686018427387904) : ∀ (ch : List S43) (i : Nat) (all : List (List Int)), (∀ c ∈ all, (∀ x ∈ c, I64 x) ∧ holds c v = true) → (∀ x ∈ ch, ∀ y ∈ x.f0, I64 y) → (goC n ch i all).2 = 0 → ∀ x ∈ ch, holds x.f0 v = true
  | [], _, _, _, _, _, x, hx => by cases hx
  | y :: t, i, all, ha, hg, h, x, hx => by
    rw [goC] at h
    by_cases he : (stepL all n y.f0 y.f1).2.2 = 0
    · rw [if_pos he] at h
      have hy := stepL_holds hv ha he
      rcases List.mem_cons.1 hx with rfl | hx
      · exact hy
      · refine goC_holds hv t (i + 1) (all ++ [y.f0]) (fun c hc => ?_) (fun x hx => hg x (List.mem_cons_of_mem _ hx)) h x hx
        rcases List.mem_append.1 hc with hc | hc
        · exact ha c hc
        · rw [List.mem_singleton.1 hc]; exact ⟨hg y (by simp), hy⟩
    · rw [if_neg he] at h; exact absurd h he
/-- 24.4: chains that hold give what the set implies. -/
theorem check_holds {n : Int} {l : List (List Int)} {ch : List S43} {M F : Nat} (hf : Fits M F l ch) (h : (checkL n l ch).2 = 0) {v : List Bool} (hv : v.length < 4611686018427387904) (he : every l v = true) : ∀ x ∈ ch, holds x.f0 v = true := by
  unfold checkL at h
  by_cases hs : setErr n l = 0
  · rw [if_pos hs] at h
    by_cases hc : (ch.length : Int) > 4096
    · rw [if_pos hc] at h; cases h
    · rw [if_neg hc] at h
      exact goC_holds hv ch 0 l (fun c hcm => ⟨(hf.cs c hcm).2, List.all_eq_true.1 he c hcm⟩) (fun x hx => (hf.ch x hx).2.2) h
  · rw [if_neg hs] at h; exact absurd h hs
/-- What refutes: no values make the set hold. -/
theorem refutes_none {n : Int} {l : List (List Int)} {ch : List S43} {M F : Nat} (hf : Fits M F l ch) (h : (refutesL n l ch).2 = 0) {v : List Bool} (hv : v.length < 4611686018427387904) : every l v = false := by
  unfold refutesL at h
  by_cases hc : (checkL n l ch).2 = 0
  · rw [if_pos hc] at h
    by_cases hb : endsL l ch = true
    · rw [Bool.eq_false_iff]
      intro he
      unfold endsL at hb
      rw [Bool.or_eq_true] at hb
      have no : ∀ c : List Int, nilL c = true → holds c v = true → False := fun c h1 h2 => by
        unfold nilL at h1
        have : c = [] := List.length_eq_zero_iff.1 (by rw [beq_iff_eq] at h1; omega)
        rw [this] at h2; cases h2
      rcases hb with hb | hb
      · obtain ⟨c, hcm, hn⟩ := List.any_eq_true.1 hb
        exact no c hn (List.all_eq_true.1 he c hcm)
      · obtain ⟨x, hxm, hn⟩ := List.any_eq_true.1 hb
        exact no x.f0 hn (check_holds hf hc hv he x hxm)
    · rw [if_neg hb] at h; cases h
  · rw [if_neg hc] at h; exact absurd h hc
end Go.Proofs.Ytmihgbjfiigmlaa.Pu

namespace Go.Proofs.Ytmihgbjfiigmlaa.Pu
open Go.RowKit Go.Proofs.Ytmihgbjfiigmlaa.P Go.Proofs.YtmihgbjfiigmlaaW.PrintWords Go.Proofs.YtmihgbjfiigmlaaW.PrintLast Go.Proofs.YtmihgbjfiigmlaaW.PrintMore
theorem rdC_at' (xs : List S43) (i : Nat) (h : i < xs.length) : rd_T43 xs (i : Int) = xs[i] := by simp [rd_T43, h]
theorem r18_Long_loop (l : List (List Int)) (hs : l.length < 4611686018427387904) : ∀ (m i : Nat), m + i = l.length → ∃ b, Tells (fun k => sequiturref18_Long.l0 k l (i : Int)) b ∧ (b = false → ∀ c ∈ l.drop i, c.length ≤ 70)
  | 0, i, h => by
    refine ⟨false, Tells.succ (fun k => by rw [sequiturref18_Long.l0]) (Tells.neg (by omega) (Tells.const _)), fun _ c hc => ?_⟩
    rw [List.drop_of_length_le (by omega)] at hc; cases hc
  | m + 1, i, h => by
    have hi : i < l.length := by omega
    by_cases he : (l[i].length : Int) > 70
    · refine ⟨true, Tells.succ (fun k => by rw [sequiturref18_Long.l0]) (Tells.pos (by omega) (Tells.pos (by omega) ?_)), fun h => by cases h⟩
      rw [rdL_at _ _ hi]; exact Tells.pos he (Tells.const _)
    · obtain ⟨b, hb, hr⟩ := r18_Long_loop l hs m (i + 1) (by omega)
      refine ⟨b, Tells.succ (fun k => by rw [sequiturref18_Long.l0]) (Tells.pos (by omega) (Tells.pos (by omega) ?_)), fun h c hc => ?_⟩
      · rw [rdL_at _ _ hi, w64s hi hs]; exact Tells.neg he hb
      · rw [List.drop_eq_getElem_cons hi] at hc
        rcases List.mem_cons.1 hc with rfl | hc
        · omega
        · exact hr h c hc
theorem r18_Long_tells (l : List (List Int)) (most : Int) (hs : l.length < 4611686018427387904) : ∃ b, Tells (fun k => sequiturref18_Long.f k l most) b ∧ (b = false → (l.length : Int) ≤ most ∧ ∀ c ∈ l, c.length ≤ 70) := by
  unfold sequiturref18_Long.f
  by_cases h : (l.length : Int) > most
  · exact ⟨true, Tells.pos h (Tells.const _), fun h => by cases h⟩
  · obtain ⟨b, hb, hr⟩ := r18_Long_loop l hs l.length 0 rfl
    exact ⟨b, Tells.neg h hb, fun e => ⟨by omega, hr e⟩⟩
theorem r24_Long_loop (l : List S43) (hs : l.length < 4611686018427387904) : ∀ (m i : Nat), m + i = l.length → ∃ b, Tells (fun k => sequiturref24_Long.l0 k l (i : Int)) b ∧ (b = false → ∀ c ∈ l.drop i, c.f0.length ≤ 70 ∧ c.f1.length ≤ 40)
  | 0, i, h => by
    refine ⟨false, Tells.succ (fun k => by rw [sequiturref24_Long.l0]) (Tells.neg (by omega) (Tells.const _)), fun _ c hc => ?_⟩
    rw [List.drop_of_length_le (by omega)] at hc; cases hc
  | m + 1, i, h => by
    have hi : i < l.length := by omega
    by_cases he : (l[i].f0.length : Int) > 70
    · refine ⟨true, Tells.succ (fun k => by rw [sequiturref24_Long.l0]) (Tells.pos (by omega) (Tells.pos (by omega) ?_)), fun h => by cases h⟩
      rw [rdC_at' _ _ hi]; exact Tells.pos he (Tells.const _)
    by_cases he2 : (l[i].f1.length : Int) > 40
    · refine ⟨true, Tells.succ (fun k => by rw [sequiturref24_Long.l0]) (Tells.pos (by omega) (Tells.pos (by omega) ?_)), fun h => by cases h⟩
      rw [rdC_at' _ _ hi]; exact Tells.neg he (Tells.pos he2 (Tells.const _))
    · obtain ⟨b, hb, hr⟩ := r24_Long_loop l hs m (i + 1) (by omega)
      refine ⟨b, Tells.succ (fun k => by rw [sequiturref24_Long.l0]) (Tells.pos (by omega) (Tells.pos (by omega) ?_)), fun h c hc => ?_⟩
      · rw [rdC_at' _ _ hi, w64s hi hs]; exact Tells.neg he (Tells.neg he2 hb)
      · rw [List.drop_eq_getElem_cons hi] at hc
        rcases List.mem_cons.1 hc with rfl | hc
        · omega
        · exact hr h c hc
theorem r24_Long_tells (l : List S43) (most : Int) (hs : l.length < 4611686018427387904) : ∃ b, Tells (fun k => sequiturref24_Long.f k l most) b ∧ (b = false → (l.length : Int) ≤ most ∧ ∀ c ∈ l, c.f0.length ≤ 70 ∧ c.f1.length ≤ 40) := by
  unfold sequiturref24_Long.f
  by_cases h : (l.length : Int) > most
  · exact ⟨true, Tells.pos h (Tells.const _), fun h => by cases h⟩
  · obtain ⟨b, hb, hr⟩ := r24_Long_loop l hs l.length 0 rfl
    exact ⟨b, Tells.neg h hb, fun e => ⟨by omega, hr e⟩⟩
end Go.Proofs.Ytmihgbjfiigmlaa.Pu

namespace Go.Proofs.Ytmihgbjfiigmlaa.Pu
open Go.RowKit Go.Proofs.Ytmihgbjfiigmlaa.P Go.Proofs.YtmihgbjfiigmlaaW.PrintWords Go.Proofs.YtmihgbjfiigmlaaW.PrintLast Go.Proofs.YtmihgbjfiigmlaaW.PrintMore
theorem rows64c {l : List (List Int)} (h : Open.Row 24 (Open.Row 8 fun n => (Lit.int .i64 n).wf = true) l) : Rows64 l :=
  ⟨by have := h.1; omega, fun c hc => ⟨by have := (h.2 c hc).1; omega, (h.2 c hc).2⟩⟩
/-- Chains as a reading has them. -/
def Chains64 (l : List S43) : Prop := l.length < 4611686018427387904 ∧ ∀ x ∈ l, (x.f0.length < 4611686018427387904 ∧ ∀ y ∈ x.f0, I64 y) ∧ (x.f1.length < 4611686018427387904 ∧ ∀ y ∈ x.f1, I64 y)
theorem chains64 {l : List S43} (h : Open.Row 48 (fun x : S43 => Open.Row 8 (fun n => (Lit.int .i64 n).wf = true) x.f0 ∧ Open.Row 8 (fun n => (Lit.int .i64 n).wf = true) x.f1) l) : Chains64 l :=
  ⟨by have := h.1; omega, fun x hx => ⟨⟨by have := (h.2 x hx).1.1; omega, (h.2 x hx).1.2⟩, ⟨by have := (h.2 x hx).2.1; omega, (h.2 x hx).2.2⟩⟩⟩
theorem fits24 {l : List (List Int)} {ch : List S43} (hl : Rows64 l) (hch : Chains64 ch) (h1 : ∀ c ∈ l, c.length ≤ 70) (h2 : ∀ x ∈ ch, x.f0.length ≤ 70 ∧ x.f1.length ≤ 40) : Fits 70 40 l ch :=
  ⟨fun c hc => ⟨h1 c hc, (hl.2 c hc).2⟩, fun x hx => ⟨(h2 x hx).1, (h2 x hx).2, (hch.2 x hx).1.2⟩, by decide, by decide⟩
end Go.Proofs.Ytmihgbjfiigmlaa.Pu

namespace Go.Proofs.Ytmihgbjfiigmlaa.Pu
open Go.RowKit Go.Proofs.Ytmihgbjfiigmlaa.P Go.Proofs.YtmihgbjfiigmlaaW.PrintWords Go.Proofs.YtmihgbjfiigmlaaW.PrintLast Go.Proofs.YtmihgbjfiigmlaaW.PrintMore

theorem r17_is_eq (a : Int) : sequiturref17_is.f a = some (isL a) := by
  unfold sequiturref17_is.f isL
  by_cases h : a = 0
  · rw [if_pos h, decide_eq_false (by simp [h])]
  · rw [if_neg h]
    by_cases h2 : a = -9223372036854775808
    · rw [h2]; rfl
    · rw [decide_eq_true ⟨h, h2⟩]
      simpa using h2
theorem r17_Of_eq {a : Int} (h : I64 a) (hm : isL a = true) : sequiturref17_Of.f a = some ((a.natAbs : Nat) : Int) := by
  have := h.lo; have := h.hi
  have hm := (of_decide_eq_true hm).2
  unfold sequiturref17_Of.f wrap64
  split <;> (congr 1; omega)
end Go.Proofs.Ytmihgbjfiigmlaa.Pu

namespace Go.Proofs.Ytmihgbjfiigmlaa.Pu
open Go.RowKit Go.Proofs.Ytmihgbjfiigmlaa.P Go.Proofs.YtmihgbjfiigmlaaW.PrintWords Go.Proofs.YtmihgbjfiigmlaaW.PrintLast Go.Proofs.YtmihgbjfiigmlaaW.PrintMore

theorem r17_Right_loop (c : List Int) (n : Int) (hc : ∀ l ∈ c, I64 l) (hn : I64 n) (hs : c.length < 4611686018427387904) : ∀ (m i : Nat), m + i = c.length →
    Tells (fun k => sequiturref17_Right.l0 k c n (i : Int)) (if (c.drop i).any (badLit n) then 1 else 0)
  | 0, i, h => by
    refine Tells.succ (fun k => by rw [sequiturref17_Right.l0]) (Tells.neg (by omega) ?_)
    rw [List.drop_of_length_le (by omega)]; exact Tells.const _
  | m + 1, i, h => by
    have hi : i < c.length := by omega
    have hl := hc _ (List.getElem_mem hi); have h1 := hl.lo; have h2 := hl.hi; have := hn.lo; have := hn.hi
    refine Tells.succ (fun k => by rw [sequiturref17_Right.l0]) (Tells.pos (by omega) (Tells.pos (by omega) ?_))
    rw [rd_at _ _ hi, w64s hi hs, List.drop_eq_getElem_cons hi, List.any_cons, r17_is_eq]
    refine Tells.bind (Tells.const _) ?_
    by_cases hb : isL c[i] = true
    · have hb' := of_decide_eq_true hb
      refine Tells.pos hb ?_
      rw [r17_Of_eq hl hb]
      refine Tells.bind (Tells.const _) ?_
      by_cases hv : ((c[i].natAbs : Nat) : Int) > n
      · have e : badLit n c[i] = true := decide_eq_true (by omega)
        rw [e, Bool.true_or, if_pos rfl]
        exact Tells.pos hv (Tells.const _)
      · have e : badLit n c[i] = false := decide_eq_false (by omega)
        rw [e, Bool.false_or]
        exact Tells.neg hv (r17_Right_loop c n hc hn hs m (i + 1) (by omega))
    · have hb' : ¬ (c[i] ≠ 0 ∧ c[i] ≠ -9223372036854775808) := fun h => hb (decide_eq_true h)
      have e : badLit n c[i] = true := decide_eq_true (by omega)
      rw [e, Bool.true_or, if_pos rfl]
      exact Tells.neg hb (Tells.const _)
theorem r17_Right_tells (c : List Int) (n : Int) (hc : ∀ l ∈ c, I64 l) (hn : I64 n) (hs : c.length < 4611686018427387904) : Tells (fun k => sequiturref17_Right.f k c n) (clauseErr c n) := by
  unfold sequiturref17_Right.f clauseErr
  by_cases h : c.length > 64
  · rw [if_pos h]; exact Tells.pos (by omega) (Tells.const _)
  · rw [if_neg h]; exact Tells.neg (by omega) (r17_Right_loop c n hc hn hs c.length 0 rfl)
end Go.Proofs.Ytmihgbjfiigmlaa.Pu

namespace Go.Proofs.Ytmihgbjfiigmlaa.Pu
open Go.RowKit Go.Proofs.Ytmihgbjfiigmlaa.P Go.Proofs.YtmihgbjfiigmlaaW.PrintWords Go.Proofs.YtmihgbjfiigmlaaW.PrintLast Go.Proofs.YtmihgbjfiigmlaaW.PrintMore

theorem r17_Has_loop (c : List Int) (x : Int) (hs : c.length < 4611686018427387904) : ∀ (m i : Nat), m + i = c.length →
    Tells (fun k => sequiturref17_Has.l0 k c x (i : Int)) (hasL (c.drop i) x)
  | 0, i, h => by
    refine Tells.succ (fun k => by rw [sequiturref17_Has.l0]) (Tells.neg (by omega) ?_)
    rw [List.drop_of_length_le (by omega), show hasL [] x = false by unfold hasL; simp]; exact Tells.const _
  | m + 1, i, h => by
    have hi : i < c.length := by omega
    have ih := r17_Has_loop c x hs m (i + 1) (by omega)
    refine Tells.succ (fun k => by rw [sequiturref17_Has.l0]) (Tells.pos (by omega) ?_)
    rw [rd_at _ _ hi, w64s hi hs, List.drop_eq_getElem_cons hi, r17_is_eq]
    refine Tells.bind (Tells.const _) ?_
    by_cases hx : isL x = true
    · refine Tells.pos hx (Tells.pos (by omega) ?_)
      by_cases he : c[i] = x
      · refine Tells.pos he ?_
        rw [show hasL (c[i] :: c.drop (i + 1)) x = true from hasL_iff.2 ⟨hx, by simp [he]⟩]
        exact Tells.const _
      · refine Tells.neg he ?_
        rw [show hasL (c[i] :: c.drop (i + 1)) x = hasL (c.drop (i + 1)) x by unfold hasL; rw [List.any_cons, beq_eq_false_iff_ne.2 he, Bool.false_or]]
        exact ih
    · refine Tells.neg hx ?_
      rw [show hasL (c[i] :: c.drop (i + 1)) x = hasL (c.drop (i + 1)) x by unfold hasL; rw [Bool.eq_false_iff.2 hx]; rfl]
      exact ih
theorem r17_Has_tells (c : List Int) (x : Int) (hs : c.length < 4611686018427387904) : Tells (fun k => sequiturref17_Has.f k c x) (hasL c x) := r17_Has_loop c x hs c.length 0 rfl

theorem r17_Within_loop (a b : List Int) (ha : a.length < 4611686018427387904) (hb : b.length < 4611686018427387904) : ∀ (m i : Nat), m + i = a.length →
    Tells (fun k => sequiturref17_Within.l0 k a b (i : Int)) (withinL (a.drop i) b)
  | 0, i, h => by
    refine Tells.succ (fun k => by rw [sequiturref17_Within.l0]) (Tells.neg (by omega) ?_)
    rw [List.drop_of_length_le (by omega)]; exact Tells.const _
  | m + 1, i, h => by
    have hi : i < a.length := by omega
    have ih := r17_Within_loop a b ha hb m (i + 1) (by omega)
    refine Tells.succ (fun k => by rw [sequiturref17_Within.l0]) (Tells.pos (by omega) (Tells.pos (by omega) ?_))
    rw [rd_at _ _ hi, w64s hi ha, List.drop_eq_getElem_cons hi, withinL, List.all_cons, r17_is_eq]
    refine Tells.bind (Tells.const _) ?_
    by_cases hx : isL a[i] = true
    · refine Tells.pos hx (Tells.bind (r17_Has_tells b a[i] hb) ?_)
      by_cases hh : hasL b a[i] = true
      · refine Tells.pos hh ?_
        rw [hh, Bool.or_true, Bool.true_and]; exact ih
      · refine Tells.neg hh ?_
        rw [hx, Bool.eq_false_iff.2 hh]; exact Tells.const _
    · refine Tells.neg hx ?_
      rw [Bool.eq_false_iff.2 hx]; exact ih
theorem r17_Within_tells (a b : List Int) (ha : a.length < 4611686018427387904) (hb : b.length < 4611686018427387904) : Tells (fun k => sequiturref17_Within.f k a b) (withinL a b) := r17_Within_loop a b ha hb a.length 0 rfl
theorem r17_Same_tells (a b : List Int) (ha : a.length < 4611686018427387904) (hb : b.length < 4611686018427387904) : Tells (fun k => sequiturref17_Same.f k a b) (sameL a b) := by
  unfold sequiturref17_Same.f sameL
  refine Tells.bind (r17_Within_tells a b ha hb) ?_
  by_cases h : withinL a b = true
  · rw [h, Bool.true_and]
    exact Tells.pos rfl (Tells.bind (r17_Within_tells b a hb ha) (Tells.const _))
  · rw [Bool.eq_false_iff.2 h]
    exact Tells.neg (by decide) (Tells.const _)
theorem r17_ahead_eq {a b : Int} (ha : I64 a) (hb : I64 b) (la : isL a = true) (lb : isL b = true) : sequiturref17_ahead.f a b = some (aheadL a b) := by
  unfold sequiturref17_ahead.f aheadL
  rw [r17_Of_eq ha la, r17_Of_eq hb lb]
  show (if ((a.natAbs : Nat) : Int) < ((b.natAbs : Nat) : Int) then some true else if ((a.natAbs : Nat) : Int) = ((b.natAbs : Nat) : Int) then some (decide (a < b)) else some false) = _
  by_cases h : a.natAbs < b.natAbs
  · rw [if_pos (by omega), decide_eq_true h, Bool.true_or]
  · rw [if_neg (by omega), decide_eq_false h, Bool.false_or]
    by_cases h2 : a.natAbs = b.natAbs
    · rw [if_pos (by omega), decide_eq_true h2, Bool.true_and]
    · rw [if_neg (by omega), decide_eq_false h2, Bool.false_and]
theorem r17_opp_loop (out : List Int) (ho : ∀ x ∈ out, I64 x ∧ isL x = true) (hs : out.length < 4611686018427387904) : ∀ (m i : Nat), m + i = out.length →
    Tells (fun k => sequiturref17_Clean.l2 k out (i : Int)) (out, !((out.drop i).any fun x => hasL out (-x)))
  | 0, i, h => by
    refine Tells.succ (fun k => by rw [sequiturref17_Clean.l2]) (Tells.neg (by omega) ?_)
    rw [List.drop_of_length_le (by omega)]; exact Tells.const _
  | m + 1, i, h => by
    have hi : i < out.length := by omega
    obtain ⟨h1, h2⟩ := ho _ (List.getElem_mem hi)
    have h3 := of_decide_eq_true h2
    have := h1.lo; have := h1.hi
    have hw : wrap64 (-out[i]) = -out[i] := w64 (by omega) (by omega)
    refine Tells.succ (fun k => by rw [sequiturref17_Clean.l2]) (Tells.pos (by omega) (Tells.pos (by omega) ?_))
    rw [rd_at _ _ hi, hw, w64s hi hs, List.drop_eq_getElem_cons hi, List.any_cons]
    refine Tells.bind (r17_Has_tells out (-out[i]) hs) ?_
    by_cases hh : hasL out (-out[i]) = true
    · rw [hh]; exact Tells.pos rfl (Tells.const _)
    · rw [Bool.eq_false_iff.2 hh, Bool.false_or]
      exact Tells.neg (by decide) (r17_opp_loop out ho hs m (i + 1) (by omega))
theorem r17_at (c out : List Int) (i : Nat) (hi : i < c.length) (hc : ∀ x ∈ c, I64 x) (ho : ∀ x ∈ out, I64 x ∧ isL x = true) (hl : isL c[i] = true) (hs : c.length < 17592186044000) (hos : out.length ≤ i) {v : List Int × Bool}
    (K : Tells (fun k => sequiturref17_Clean.l0 k c (insL c[i] out) ((i + 1 : Nat) : Int)) v) : ∀ (suf pre : List Int), out = pre ++ suf → (∀ y ∈ pre, aheadL y c[i] = true) →
      Tells (fun k => sequiturref17_Clean.l1 k c out (i : Int) ((pre.length : Nat) : Int)) v
  | [], pre, e, ha => by
    have e1 : out = pre := by rw [e, List.append_nil]
    have hins : insL c[i] out = (([] ++ pre) ++ [c[i]]) ++ [] := by
      unfold insL
      rw [e, List.takeWhile_append_of_pos ha, List.dropWhile_append_of_pos ha]
      simp
    refine Tells.succ (fun k => by rw [sequiturref17_Clean.l1]) (Tells.neg (by rw [e1]; omega) (Tells.pos (by omega) (Tells.pos (by rw [e1]; omega) ?_)))
    rw [Int.toNat_natCast, e1, List.take_length, List.drop_length, rd_at _ _ hi, w64s hi (by omega)]
    have hl1 : pre.length ≤ i := by rw [← e1]; exact hos
    refine Tells.bind (Tells.const _) (Tells.pos (by simp; omega) (Tells.bind (Tells.const _) (Tells.pos (by omega) (Tells.pos (by omega) (Tells.pos (by simp; omega) (Tells.bind (Tells.const _) (Tells.bind (Tells.const _) (Tells.pos (by simp; omega) ?_))))))))
    rw [hins] at K
    exact K
  | s :: suf, pre, e, ha => by
    have hlen : pre.length < out.length := by rw [e]; simp
    have hmem : s ∈ out := by rw [e]; simp
    have hget : rd out ((pre.length : Nat) : Int) = s := by rw [rd_at _ _ hlen]; simp [e]
    refine Tells.succ (fun k => by rw [sequiturref17_Clean.l1]) (Tells.pos (by omega) (Tells.pos (by omega) (Tells.pos (by omega) (Tells.pos (by omega) ?_))))
    rw [hget, rd_at _ _ hi, r17_ahead_eq (ho s hmem).1 (hc _ (List.getElem_mem hi)) (ho s hmem).2 hl]
    refine Tells.bind (Tells.const _) ?_
    by_cases h : aheadL s c[i] = true
    · refine Tells.pos h ?_
      have ih := r17_at c out i hi hc ho hl hs hos K suf (pre ++ [s]) (by rw [e]; simp) (fun y hy => by
        rcases List.mem_append.1 hy with hy | hy
        · exact ha y hy
        · rw [List.mem_singleton.1 hy]; exact h)
      rw [w64s (by omega : pre.length < c.length) (by omega)]
      rw [List.length_append, List.length_singleton] at ih
      exact ih
    · refine Tells.neg h (Tells.pos (by omega) ?_)
      have hins : insL c[i] out = (([] ++ pre) ++ [c[i]]) ++ (s :: suf) := by
        unfold insL
        rw [e, List.takeWhile_append_of_pos ha, List.dropWhile_append_of_pos ha, List.takeWhile_cons_of_neg (p := fun y => aheadL y c[i]) h, List.dropWhile_cons_of_neg (p := fun y => aheadL y c[i]) h]
        simp
      have hl2 : pre.length + (s :: suf).length ≤ i := by rw [← List.length_append, ← e]; exact hos
      rw [Int.toNat_natCast, show out.take pre.length = pre by rw [e]; exact List.take_left' rfl, show out.drop pre.length = s :: suf by rw [e]; exact List.drop_left' rfl, w64s hi (by omega)]
      refine Tells.bind (Tells.const _) (Tells.pos (by simp; omega) (Tells.bind (Tells.const _) (Tells.pos (by simp; omega) (Tells.bind (Tells.const _) (Tells.bind (Tells.const _) (Tells.pos (by simp at hl2 ⊢; omega) ?_))))))
      rw [hins] at K
      exact K
theorem r17_Clean_loop (c : List Int) (hc : ∀ x ∈ c, I64 x) (hs : c.length < 17592186044000) : ∀ (m i : Nat) (out : List Int), m + i = c.length → out.length ≤ i → (∀ x ∈ out, I64 x ∧ isL x = true) →
    Tells (fun k => sequiturref17_Clean.l0 k c out (i : Int)) ((c.drop i).foldl cleanStep out, !oppL ((c.drop i).foldl cleanStep out))
  | 0, i, out, h, hos, ho => by
    refine Tells.succ (fun k => by rw [sequiturref17_Clean.l0]) (Tells.neg (by omega) ?_)
    rw [List.drop_of_length_le (by omega)]
    exact r17_opp_loop out ho (by omega) out.length 0 rfl
  | m + 1, i, out, h, hos, ho => by
    have hi : i < c.length := by omega
    have hx := hc _ (List.getElem_mem hi)
    have hstep : ∀ x ∈ cleanStep out c[i], I64 x ∧ isL x = true := fun x hm => by
      rcases cleanStep_mem.1 hm with hm | ⟨rfl, hl⟩
      · exact ho x hm
      · exact ⟨hx, hl⟩
    have ih := r17_Clean_loop c hc hs m (i + 1) (cleanStep out c[i]) (by omega) (by have := cleanStep_length out c[i]; omega) hstep
    rw [List.drop_eq_getElem_cons hi, List.foldl_cons]
    refine Tells.succ (fun k => by rw [sequiturref17_Clean.l0]) (Tells.pos (by omega) (Tells.pos (by omega) ?_))
    rw [rd_at _ _ hi, r17_is_eq]
    refine Tells.bind (Tells.const _) ?_
    have hskip : cleanStep out c[i] = out → Tells (fun k => sequiturref17_Clean.j1 k c out (i : Int) true) ((c.drop (i + 1)).foldl cleanStep (cleanStep out c[i]), !oppL ((c.drop (i + 1)).foldl cleanStep (cleanStep out c[i]))) := fun e => by
      refine Tells.succ (fun k => by rw [sequiturref17_Clean.j1]) (Tells.pos rfl ?_)
      rw [w64s hi (by omega)]
      rw [e] at ih ⊢
      exact ih
    by_cases hl : isL c[i] = true
    · refine Tells.pos hl (Tells.bind (r17_Has_tells out c[i] (by omega)) ?_)
      by_cases hh : hasL out c[i] = true
      · rw [hh]
        exact hskip (by unfold cleanStep; rw [hh]; simp)
      · rw [Bool.eq_false_iff.2 hh]
        refine Tells.succ (fun k => by rw [sequiturref17_Clean.j1]) (Tells.neg (by decide) ?_)
        have e : cleanStep out c[i] = insL c[i] out := by unfold cleanStep; rw [hl, Bool.eq_false_iff.2 hh]; rfl
        rw [e] at ih ⊢
        exact r17_at c out i hi hc ho hl hs hos ih out [] rfl (fun y hy => by cases hy)
    · refine Tells.neg hl (hskip ?_)
      unfold cleanStep
      rw [Bool.eq_false_iff.2 hl]; rfl
theorem r17_Clean_tells (c : List Int) (hc : ∀ x ∈ c, I64 x) (hs : c.length < 17592186044000) : Tells (fun k => sequiturref17_Clean.f k c) (cleanL c, !oppL (cleanL c)) :=
  r17_Clean_loop c hc hs c.length 0 [] rfl (Nat.le_refl _) (fun x hx => by cases hx)
end Go.Proofs.Ytmihgbjfiigmlaa.Pu

namespace Go.Proofs.Ytmihgbjfiigmlaa.Pu
open Go.RowKit Go.Proofs.Ytmihgbjfiigmlaa.P Go.Proofs.YtmihgbjfiigmlaaW.PrintWords Go.Proofs.YtmihgbjfiigmlaaW.PrintLast Go.Proofs.YtmihgbjfiigmlaaW.PrintMore

theorem r17_Resolve_l1 (b : List Int) (v : Int) (hb : ∀ x ∈ b, I64 x) (N : Nat) (hN : N + b.length < 17592186044000) : ∀ (m i : Nat) (acc : List Int), m + i = b.length → acc.length ≤ N + i → (∀ x ∈ acc, I64 x) →
    Tells (fun k => sequiturref17_Resolve.l1 k b v acc (i : Int)) (finR (acc ++ (b.drop i).filter (· != wrap64 (-v))))
  | 0, i, acc, h, hl, hg => by
    refine Tells.succ (fun k => by rw [sequiturref17_Resolve.l1]) (Tells.neg (by omega) ?_)
    rw [List.drop_of_length_le (by omega), List.filter_nil, List.append_nil]
    refine Tells.bind (r17_Clean_tells acc hg (by omega)) ?_
    unfold finR
    by_cases ho : oppL (cleanL acc) = true
    · rw [if_pos ho]; exact Tells.neg (by show ¬ (!oppL (cleanL acc)) = true; rw [ho]; decide) (Tells.const _)
    · rw [if_neg ho]; exact Tells.pos (by show (!oppL (cleanL acc)) = true; rw [Bool.eq_false_iff.2 ho]; rfl) (Tells.const _)
  | m + 1, i, acc, h, hl, hg => by
    have hi : i < b.length := by omega
    refine Tells.succ (fun k => by rw [sequiturref17_Resolve.l1]) (Tells.pos (by omega) (Tells.pos (by omega) ?_))
    rw [rd_at _ _ hi, w64s hi (by omega), List.drop_eq_getElem_cons hi]
    by_cases e : b[i] = wrap64 (-v)
    · refine Tells.pos e ?_
      rw [List.filter_cons_of_neg (by simp [e])]
      exact r17_Resolve_l1 b v hb N hN m (i + 1) acc (by omega) (by omega) hg
    · refine Tells.neg e (Tells.pos (by omega) ?_)
      rw [List.filter_cons_of_pos (by simpa using e), List.append_cons acc b[i] (List.filter (· != wrap64 (-v)) (b.drop (i + 1)))]
      exact r17_Resolve_l1 b v hb N hN m (i + 1) (acc ++ [b[i]]) (by omega) (by simp; omega) (fun x hx => by
        rcases List.mem_append.1 hx with hx | hx
        · exact hg x hx
        · rw [List.mem_singleton.1 hx]; exact hb _ (List.getElem_mem hi))
theorem r17_Resolve_l0 (a b : List Int) (v : Int) (ha : ∀ x ∈ a, I64 x) (hb : ∀ x ∈ b, I64 x) (hN : a.length + b.length < 17592186044000) : ∀ (m i : Nat) (acc : List Int), m + i = a.length → acc.length ≤ i → (∀ x ∈ acc, I64 x) →
    Tells (fun k => sequiturref17_Resolve.l0 k a b v acc (i : Int)) (finR (acc ++ (a.drop i).filter (· != v) ++ b.filter (· != wrap64 (-v))))
  | 0, i, acc, h, hl, hg => by
    refine Tells.succ (fun k => by rw [sequiturref17_Resolve.l0]) (Tells.neg (by omega) ?_)
    rw [List.drop_of_length_le (by omega), List.filter_nil, List.append_nil]
    exact r17_Resolve_l1 b v hb a.length hN b.length 0 acc rfl (by omega) hg
  | m + 1, i, acc, h, hl, hg => by
    have hi : i < a.length := by omega
    refine Tells.succ (fun k => by rw [sequiturref17_Resolve.l0]) (Tells.pos (by omega) (Tells.pos (by omega) ?_))
    rw [rd_at _ _ hi, w64s hi (by omega), List.drop_eq_getElem_cons hi]
    by_cases e : a[i] = v
    · refine Tells.pos e ?_
      rw [List.filter_cons_of_neg (by simp [e])]
      exact r17_Resolve_l0 a b v ha hb hN m (i + 1) acc (by omega) (by omega) hg
    · refine Tells.neg e (Tells.pos (by omega) ?_)
      rw [List.filter_cons_of_pos (by simpa using e), List.append_cons acc a[i] (List.filter (· != v) (a.drop (i + 1)))]
      exact r17_Resolve_l0 a b v ha hb hN m (i + 1) (acc ++ [a[i]]) (by omega) (by simp; omega) (fun x hx => by
        rcases List.mem_append.1 hx with hx | hx
        · exact hg x hx
        · rw [List.mem_singleton.1 hx]; exact ha _ (List.getElem_mem hi))
theorem r17_Resolve_tells (a b : List Int) (v : Int) (ha : ∀ x ∈ a, I64 x) (hb : ∀ x ∈ b, I64 x) (hN : a.length + b.length < 17592186044000) : Tells (fun k => sequiturref17_Resolve.f k a b v) (resolveL a b v) := by
  unfold sequiturref17_Resolve.f resolveL
  rw [r17_is_eq]
  refine Tells.bind (Tells.const _) ?_
  have no : (hasL a v && hasL b (wrap64 (-v))) = false → Tells (fun k => sequiturref17_Resolve.j0 k a b v true) (if (hasL a v && hasL b (wrap64 (-v))) = true then finR (parents a b v) else ([], 1)) := fun e => by
    rw [e, if_neg (by decide)]
    exact Tells.succ (fun k => by rw [sequiturref17_Resolve.j0]) (Tells.pos (by rfl) (Tells.const _))
  by_cases hl : isL v = true
  · refine Tells.pos hl (Tells.bind (r17_Has_tells a v (by omega)) ?_)
    by_cases h1 : hasL a v = true
    · refine Tells.pos h1 (Tells.bind (r17_Has_tells b _ (by omega)) ?_)
      by_cases h2 : hasL b (wrap64 (-v)) = true
      · rw [h1, h2, if_pos (by rfl)]
        refine Tells.succ (fun k => by rw [sequiturref17_Resolve.j0]) (Tells.neg (by decide) ?_)
        exact r17_Resolve_l0 a b v ha hb hN a.length 0 [] rfl (by simp) (by simp)
      · have := no (by rw [Bool.eq_false_iff.2 h2, Bool.and_false])
        rw [Bool.eq_false_iff.2 h2] at this ⊢
        exact this
    · exact Tells.neg h1 (no (by rw [Bool.eq_false_iff.2 h1, Bool.false_and]))
  · refine Tells.neg hl (no ?_)
    have : hasL a v = false := by unfold hasL; rw [Bool.eq_false_iff.2 hl]; rfl
    rw [this, Bool.false_and]
end Go.Proofs.Ytmihgbjfiigmlaa.Pu

namespace Go.Proofs.Ytmihgbjfiigmlaa.Pu
open Go.RowKit Go.Proofs.Ytmihgbjfiigmlaa.P Go.Proofs.YtmihgbjfiigmlaaW.PrintWords Go.Proofs.YtmihgbjfiigmlaaW.PrintLast Go.Proofs.YtmihgbjfiigmlaaW.PrintMore

def pivRun : Nat → Nat → List Nat → Int × Bool
  | f, n, [] => if n = 1 then ((f : Int), true) else (0, false)
  | f, n, v :: t => if v = f then pivRun f n t else pivRun v (n + 1) t
theorem pivRun_two : ∀ (t : List Nat) (f n : Nat), pivRun f (n + 2) t = (0, false)
  | [], f, n => by rw [pivRun, if_neg (by omega)]
  | v :: t, f, n => by
    rw [pivRun, pivRun_two t f n, pivRun_two t v (n + 1)]; simp
theorem pivRun_one : ∀ (t : List Nat) (f : Nat), pivRun f 1 t = if t.all (· == f) = true then ((f : Int), true) else (0, false)
  | [], f => by rw [pivRun, if_pos rfl]; rfl
  | v :: t, f => by
    rw [pivRun, List.all_cons]
    by_cases e : v = f
    · rw [if_pos e, pivRun_one t f, beq_iff_eq.2 e, Bool.true_and]
    · rw [if_neg e, pivRun_two t v 0, beq_eq_false_iff_ne.2 e, Bool.false_and, if_neg (by decide)]
theorem pivRun_none : ∀ (t : List Nat), (∀ v ∈ t, v ≠ 0) → pivRun 0 0 t = pivL t
  | [], _ => rfl
  | v :: t, h => by
    rw [pivRun, if_neg (h v (by simp)), pivRun_one, pivL]
theorem r17_Pivot_loop (l b : List Int) (hg : ∀ x ∈ l, I64 x ∧ isL x = true) (hs : l.length < 4611686018427387904) (hbs : b.length < 4611686018427387904) : ∀ (m i found n : Nat), m + i = l.length → n ≤ i →
    Tells (fun k => sequiturref17_Pivot.l0 k b l (found : Int) (n : Int) (i : Int)) (pivRun found n (pivs (l.drop i) b))
  | 0, i, found, n, h, hn => by
    refine Tells.succ (fun k => by rw [sequiturref17_Pivot.l0]) (Tells.neg (by omega) ?_)
    rw [List.drop_of_length_le (by omega), show pivs [] b = [] from rfl, pivRun]
    by_cases e : n = 1
    · rw [if_pos e]; exact Tells.pos (by omega) (Tells.const _)
    · rw [if_neg e]; exact Tells.neg (by omega) (Tells.const _)
  | m + 1, i, found, n, h, hn => by
    have hi : i < l.length := by omega
    obtain ⟨hx, hl⟩ := hg _ (List.getElem_mem hi)
    refine Tells.succ (fun k => by rw [sequiturref17_Pivot.l0]) (Tells.pos (by omega) (Tells.pos (by omega) ?_))
    rw [rd_at _ _ hi, w64s hi hs, List.drop_eq_getElem_cons hi, r17_Of_eq hx hl]
    refine Tells.bind (r17_Has_tells b _ hbs) ?_
    by_cases hh : hasL b (wrap64 (-l[i])) = true
    · refine Tells.pos hh (Tells.bind (Tells.const _) ?_)
      have hp : pivs (l[i] :: l.drop (i + 1)) b = l[i].natAbs :: pivs (l.drop (i + 1)) b := by
        unfold pivs
        rw [List.filter_cons_of_pos (by unfold meets; rw [hl, hh]; rfl)]; rfl
      rw [hp, pivRun]
      by_cases e : l[i].natAbs = found
      · rw [if_pos e]
        exact Tells.pos (by omega) (r17_Pivot_loop l b hg hs hbs m (i + 1) found n (by omega) (by omega))
      · rw [if_neg e]
        refine Tells.neg (by omega) ?_
        rw [w64s (by omega : n < l.length) hs]
        exact r17_Pivot_loop l b hg hs hbs m (i + 1) l[i].natAbs (n + 1) (by omega) (by omega)
    · refine Tells.neg hh ?_
      rw [show pivs (l[i] :: l.drop (i + 1)) b = pivs (l.drop (i + 1)) b by unfold pivs; rw [List.filter_cons_of_neg (by unfold meets; rw [Bool.eq_false_iff.2 hh, Bool.and_false]; decide)]]
      exact r17_Pivot_loop l b hg hs hbs m (i + 1) found n (by omega) (by omega)
theorem r17_Pivot_tells (a b : List Int) (ha : ∀ x ∈ a, I64 x) (hs : a.length < 17592186044000) (hbs : b.length < 4611686018427387904) : Tells (fun k => sequiturref17_Pivot.f k a b) (pivotL a b) := by
  unfold sequiturref17_Pivot.f
  refine Tells.bind (r17_Clean_tells a ha hs) ?_
  have := r17_Pivot_loop (cleanL a) b (cleanL_good ha) (by have := cleanL_length a; omega) hbs (cleanL a).length 0 0 0 rfl (Nat.le_refl _)
  rw [pivRun_none _ (fun v hv => by
    unfold pivs at hv
    obtain ⟨x, hx, rfl⟩ := List.mem_map.1 hv
    have := (List.mem_filter.1 hx).2
    unfold meets at this; rw [Bool.and_eq_true] at this
    exact natAbs_pos_of_isL this.1)] at this
  rw [← pivotL_clean a b]
  exact this
end Go.Proofs.Ytmihgbjfiigmlaa.Pu

namespace Go.Proofs.Ytmihgbjfiigmlaa.Pu
open Go.RowKit Go.Proofs.Ytmihgbjfiigmlaa.P Go.Proofs.YtmihgbjfiigmlaaW.PrintWords Go.Proofs.YtmihgbjfiigmlaaW.PrintLast Go.Proofs.YtmihgbjfiigmlaaW.PrintMore

/-- The one literal whose opposite a clause has; 0. -/
def oneL (now c : List Int) : Int := match now.filter (meets c) with | [l] => l | _ => 0
def runP (c : List Int) : Int → Nat → List Int → Int
  | f, n, [] => if n = 1 then f else 0
  | f, n, l :: t => if meets c l = true then runP c l (n + 1) t else runP c f n t
theorem runP_two (c : List Int) : ∀ (t : List Int) (f : Int) (n : Nat), runP c f (n + 2) t = 0
  | [], f, n => by rw [runP, if_neg (by omega)]
  | v :: t, f, n => by rw [runP, runP_two c t f n, runP_two c t v (n + 1)]; simp
theorem runP_one (c : List Int) : ∀ (t : List Int) (f : Int), runP c f 1 t = if (t.filter (meets c)).length = 0 then f else 0
  | [], f => by rw [runP]; rfl
  | v :: t, f => by
    rw [runP]
    by_cases h : meets c v = true
    · rw [if_pos h, runP_two c t v 0, List.filter_cons_of_pos h, if_neg (by simp)]
    · rw [if_neg h, runP_one c t f, List.filter_cons_of_neg h]
theorem runP_none (c : List Int) : ∀ (t : List Int) (f : Int), runP c f 0 t = oneL t c
  | [], f => by rw [runP]; rfl
  | v :: t, f => by
    rw [runP]
    unfold oneL
    by_cases h : meets c v = true
    · rw [if_pos h, runP_one c t v, List.filter_cons_of_pos h]
      cases e : t.filter (meets c) with
      | nil => rfl
      | cons a b => rfl
    · rw [if_neg h, runP_none c t f, List.filter_cons_of_neg h]; rfl
theorem r24_pivot_loop (a b : List Int) (hs : a.length < 4611686018427387904) (hbs : b.length < 4611686018427387904) : ∀ (m i : Nat) (f : Int) (n : Nat), m + i = a.length → n ≤ i →
    Tells (fun k => sequiturref24_pivot.l0 k a b f (n : Int) (i : Int)) (runP b f n (a.drop i))
  | 0, i, f, n, h, hn => by
    refine Tells.succ (fun k => by rw [sequiturref24_pivot.l0]) (Tells.neg (by omega) ?_)
    rw [List.drop_of_length_le (by omega), runP]
    by_cases e : n = 1
    · rw [if_pos e]; exact Tells.pos (by omega) (Tells.const _)
    · rw [if_neg e]; exact Tells.neg (by omega) (Tells.const _)
  | m + 1, i, f, n, h, hn => by
    have hi : i < a.length := by omega
    refine Tells.succ (fun k => by rw [sequiturref24_pivot.l0]) (Tells.pos (by omega) (Tells.pos (by omega) ?_))
    rw [rd_at _ _ hi, w64s hi hs, List.drop_eq_getElem_cons hi, runP]
    refine Tells.bind (r17_Has_tells b _ hbs) ?_
    have skip : meets b a[i] = false → Tells (fun k => sequiturref24_pivot.l0 k a b f (n : Int) ((i + 1 : Nat) : Int)) (if meets b a[i] = true then runP b a[i] (n + 1) (a.drop (i + 1)) else runP b f n (a.drop (i + 1))) := fun e => by
      rw [e, if_neg (by decide)]
      exact r24_pivot_loop a b hs hbs m (i + 1) f n (by omega) (by omega)
    by_cases hh : hasL b (wrap64 (-a[i])) = true
    · refine Tells.pos hh (Tells.pos (by omega) (Tells.pos (by omega) ?_))
      have hcut : (a.take (((i + 1 : Nat) : Int)).toNat).drop ((i : Int)).toNat = [a[i]] := by
        rw [Int.toNat_natCast, Int.toNat_natCast, List.drop_take, show i + 1 - i = 1 by omega, List.drop_eq_getElem_cons hi]
        rfl
      rw [hcut]
      refine Tells.bind (r17_Has_tells [a[i]] a[i] (by simp)) ?_
      have e : hasL [a[i]] a[i] = isL a[i] := by unfold hasL; simp
      rw [e]
      by_cases hl : isL a[i] = true
      · refine Tells.pos hl ?_
        rw [if_pos (by unfold meets; rw [hl, hh]; rfl), w64s (by omega : n < a.length) hs]
        exact r24_pivot_loop a b hs hbs m (i + 1) a[i] (n + 1) (by omega) (by omega)
      · exact Tells.neg hl (skip (by unfold meets; rw [Bool.eq_false_iff.2 hl]; rfl))
    · exact Tells.neg hh (skip (by unfold meets; rw [Bool.eq_false_iff.2 hh, Bool.and_false]))
theorem r24_pivot_tells (a b : List Int) (hs : a.length < 4611686018427387904) (hbs : b.length < 4611686018427387904) : Tells (fun k => sequiturref24_pivot.f k a b) (oneL a b) := by
  have := r24_pivot_loop a b hs hbs a.length 0 0 0 rfl (Nat.le_refl _)
  rw [List.drop_zero, runP_none] at this
  exact this
/-- A literal of one's own variable. -/
theorem same_var {x v : Int} (h : (x.natAbs : Int) = v) : x = v ∨ x = -v := by omega
theorem one_next {now c : List Int} (hn : now.Nodup) (hg : ∀ x ∈ now, I64 x ∧ isL x = true) (hp : (pivotL now c).2 = true) :
    (oneL now c ≠ 0 ∧ ((oneL now c).natAbs : Int) = (pivotL now c).1 ∧ isL (oneL now c) = true ∧ I64 (oneL now c) ∧ byL now c (pivotL now c).1 = oneL now c) ∨
    (oneL now c = 0 ∧ (resolveL now c (byL now c (pivotL now c).1)).2 ≠ 0) := by
  obtain ⟨v, hv⟩ : ∃ v, (pivotL now c).1 = v := ⟨_, rfl⟩
  have hpv : pivotL now c = (v, true) := by rw [← hv, ← hp]
  obtain ⟨h1, h2⟩ := pivL_true.1 (show pivL (pivs now c) = (v, true) from hpv)
  rw [hv]
  have hm : ∀ x, x ∈ now.filter (meets c) ↔ x ∈ now ∧ meets c x = true := fun x => List.mem_filter
  have hmv : ∀ x ∈ now.filter (meets c), (x.natAbs : Int) = v := fun x hx => h2 x.natAbs (by unfold pivs; exact List.mem_map.2 ⟨x, hx, rfl⟩)
  have hne : now.filter (meets c) ≠ [] := fun e => h1 (by unfold pivs; rw [e]; rfl)
  have hnd : (now.filter (meets c)).Nodup := hn.filter _
  unfold oneL
  cases e : now.filter (meets c) with
  | nil => exact absurd e hne
  | cons l t =>
    have hl : l ∈ now.filter (meets c) := by rw [e]; simp
    obtain ⟨ln, lm⟩ := (hm l).1 hl
    obtain ⟨li, ll⟩ := hg l ln
    have lv := hmv l hl
    have hz := (of_decide_eq_true ll).1
    have lm2 : hasL c (wrap64 (-l)) = true := by unfold meets at lm; rw [Bool.and_eq_true] at lm; exact lm.2
    cases t with
    | nil =>
      refine .inl ⟨hz, lv, ll, li, ?_⟩
      show byL now c v = l
      unfold byL
      rcases same_var lv with h | h
      · rw [if_pos (by rw [Bool.and_eq_true, ← h]; exact ⟨hasL_iff.2 ⟨ll, ln⟩, lm2⟩), h]
      · have hw : wrap64 (-v) = l := by rw [h]; have := li.lo; have := li.hi; exact w64 (by omega) (by omega)
        rw [if_neg, hw]
        rw [Bool.and_eq_true]
        rintro ⟨a1, a2⟩
        obtain ⟨b1, b2⟩ := hasL_iff.1 a1
        have : v ∈ now.filter (meets c) := (hm v).2 ⟨b2, by unfold meets; rw [b1, a2]; rfl⟩
        rw [e] at this
        have := List.mem_singleton.1 this
        omega
    | cons l2 t2 =>
      refine .inr ⟨rfl, ?_⟩
      have hl2 : l2 ∈ now.filter (meets c) := by rw [e]; simp
      obtain ⟨ln2, lmm⟩ := (hm l2).1 hl2
      obtain ⟨li2, ll2⟩ := hg l2 ln2
      have lv2 := hmv l2 hl2
      have lmm2 : hasL c (wrap64 (-l2)) = true := by unfold meets at lmm; rw [Bool.and_eq_true] at lmm; exact lmm.2
      have hd : l ≠ l2 := by
        rw [e] at hnd
        exact fun h => (List.nodup_cons.1 hnd).1 (by rw [h]; simp)
      -- v and its opposite are both in both
      have key : ∀ x y : Int, x = v → y = -v → x ∈ now → y ∈ now → isL x = true → isL y = true → I64 x → I64 y → hasL c (wrap64 (-x)) = true → hasL c (wrap64 (-y)) = true → (resolveL now c (byL now c v)).2 ≠ 0 := by
        rintro x y rfl rfl hx hy lx ly ix iy cx cy
        have hwx := wneg ix lx
        have hwy := wneg iy ly
        rw [Int.neg_neg] at hwy
        rw [hwx] at cx
        rw [Int.neg_neg, hwy] at cy
        have hz := (of_decide_eq_true lx).1
        unfold byL
        rw [if_pos (by rw [Bool.and_eq_true, hwx]; exact ⟨hasL_iff.2 ⟨lx, hx⟩, cx⟩)]
        unfold resolveL
        rw [if_pos (by rw [Bool.and_eq_true, hwx]; exact ⟨hasL_iff.2 ⟨lx, hx⟩, cx⟩)]
        have m1 : -x ∈ parents now c x := by
          unfold parents
          exact List.mem_append.2 (.inl (List.mem_filter.2 ⟨hy, by simp; omega⟩))
        have m2 : x ∈ parents now c x := by
          unfold parents
          rw [hwx]
          exact List.mem_append.2 (.inr (List.mem_filter.2 ⟨(hasL_iff.1 cy).2, by simp; omega⟩))
        unfold finR
        rw [if_pos]
        · decide
        · unfold oppL
          exact List.any_eq_true.2 ⟨x, cleanL_mem.2 ⟨m2, lx⟩, hasL_iff.2 ⟨ly, cleanL_mem.2 ⟨m1, ly⟩⟩⟩
      rcases same_var lv with h | h
      · rcases same_var lv2 with h' | h'
        · exact absurd (h.trans h'.symm) hd
        · exact key l l2 h h' ln ln2 ll ll2 li li2 lm2 lmm2
      · rcases same_var lv2 with h' | h'
        · exact key l2 l h' h ln2 ln ll2 ll li2 li lmm2 lm2
        · exact absurd (h.trans h'.symm) hd
theorem finR_nodup (c : List Int) : (finR c).1.Nodup := by
  unfold finR; split
  · exact List.nodup_nil
  · exact cleanL_nodup c
theorem resolveL_nodup (a b : List Int) (v : Int) : (resolveL a b v).1.Nodup := by
  unfold resolveL; split
  · exact finR_nodup _
  · exact List.nodup_nil
theorem r24_Step_loop (cs : List (List Int)) (cl fr : List Int) (M : Nat) (hcs : ∀ c ∈ cs, c.length ≤ M ∧ ∀ x ∈ c, I64 x) (hcl : cl.length < 4611686018427387904) (hf : fr.length * M + M < 17592186044000) (hfs : fr.length < 4611686018427387904) :
    ∀ (m i : Nat) (now : List Int), m + i = fr.length → now.length ≤ i * M → (∀ x ∈ now, I64 x ∧ isL x = true) → now.Nodup → Tells (fun k => sequiturref24_Step.l0 k cs now (i : Int) cl fr) (goS cs cl (fr.drop i) i now)
  | 0, i, now, h, hl, hg, hd => by
    have hi : i = fr.length := by omega
    subst hi
    refine Tells.succ (fun k => by rw [sequiturref24_Step.l0]) (Tells.neg (by omega) ?_)
    rw [List.drop_of_length_le (by omega), goS]
    refine Tells.bind (r17_Within_tells now cl (by omega) hcl) ?_
    by_cases hw : withinL now cl = true
    · rw [if_pos hw, if_pos hw]; exact Tells.const _
    · rw [if_neg hw, if_neg hw]; exact Tells.const _
  | m + 1, i, now, h, hl, hg, hd => by
    have hi : i < fr.length := by omega
    have hmul : (i + 1) * M ≤ fr.length * M := Nat.mul_le_mul_right M hi
    rw [Nat.add_mul, Nat.one_mul] at hmul
    have hg1 : ∀ x ∈ now, I64 x := fun x hx => (hg x hx).1
    refine Tells.succ (fun k => by rw [sequiturref24_Step.l0]) (Tells.pos (by omega) (Tells.pos (by omega) ?_))
    rw [rd_at _ _ hi, List.drop_eq_getElem_cons hi, goS]
    obtain ⟨q, hq⟩ : ∃ q, fr[i] = q := ⟨_, rfl⟩
    rw [hq]
    have bad : (q < 0 ∨ (cs.length : Int) ≤ q) → Tells (fun k => sequiturref24_Step.j1 k cs now (i : Int) q true cl fr) (if q < 0 ∨ (cs.length : Int) ≤ q then ([], (i : Int), 3)
        else if i = 0 then goS cs cl (fr.drop (i + 1)) 1 (cleanL (cs.getD q.toNat []))
        else if (nextL now (cs.getD q.toNat [])).2 = 0 then goS cs cl (fr.drop (i + 1)) (i + 1) (nextL now (cs.getD q.toNat [])).1 else ([], (i : Int), 30)) := fun hb => by
      rw [if_pos hb]
      refine Tells.succ (fun k => by rw [sequiturref24_Step.j1]) ?_
      exact Tells.pos rfl (Tells.const _)
    by_cases hn : q < 0
    · exact Tells.pos hn (bad (.inl hn))
    refine Tells.neg hn ?_
    by_cases hge : q ≥ (cs.length : Int)
    · rw [decide_eq_true hge]; exact bad (.inr hge)
    rw [decide_eq_false hge, if_neg (by omega)]
    refine Tells.succ (fun k => by rw [sequiturref24_Step.j1]) (Tells.neg (by decide) ?_)
    rw [rdL_getD (by omega) (by omega), w64s hi hfs]
    obtain ⟨hcM, hcg⟩ := getD_good hcs q.toNat
    obtain ⟨c, hc⟩ : ∃ c, cs.getD q.toNat [] = c := ⟨_, rfl⟩
    rw [hc] at hcM hcg ⊢
    by_cases h0 : i = 0
    · subst h0
      rw [if_pos rfl]
      refine Tells.pos rfl (Tells.pos (by omega) (Tells.pos (by omega) (Tells.bind (r17_Clean_tells c hcg (by omega)) ?_)))
      exact r24_Step_loop cs cl fr M hcs hcl hf hfs m 1 (cleanL c) (by omega) (by have := cleanL_length c; omega) (cleanL_good hcg) (cleanL_nodup c)
    · rw [if_neg h0]
      refine Tells.neg (by omega) (Tells.pos (by omega) (Tells.pos (by omega) (Tells.bind (r24_pivot_tells now c (by omega) (by omega)) (Tells.bind (r17_Pivot_tells now c hg1 (by omega) (by omega)) ?_))))
      unfold nextL
      have out : Tells (fun k => sequiturref24_Step.j2 k cs now (i : Int) q (oneL now c) true cl fr) (([] : List Int), (i : Int), (30 : Int)) := by
        refine Tells.succ (fun k => by rw [sequiturref24_Step.j2]) ?_
        exact Tells.pos rfl (Tells.const _)
      by_cases hp : (pivotL now c).2 = true
      · rw [if_pos hp]
        refine Tells.pos hp ?_
        rcases one_next hd hg hp with ⟨o1, o2, o3, o4, o5⟩ | ⟨o1, o2⟩
        · refine Tells.neg o1 ?_
          rw [r17_Of_eq o4 o3, o5]
          refine Tells.bind (Tells.const _) ?_
          rw [o2, bne_self_eq_false]
          refine Tells.succ (fun k => by rw [sequiturref24_Step.j2]) (Tells.neg (by decide) (Tells.pos (by omega) (Tells.pos (by omega) ?_)))
          rw [rdL_getD (by omega) (by omega), w64s hi hfs, hc]
          have hlen := resolveL_length now c (oneL now c)
          refine Tells.bind (r17_Resolve_tells now c (oneL now c) hg1 hcg (by omega)) ?_
          by_cases he : (resolveL now c (oneL now c)).2 = 0
          · rw [if_pos he]
            exact Tells.pos he (r24_Step_loop cs cl fr M hcs hcl hf hfs m (i + 1) _ (by omega) (by rw [Nat.add_mul, Nat.one_mul]; omega) (resolveL_good hg1 hcg) (resolveL_nodup _ _ _))
          · rw [if_neg he]; exact Tells.neg he (Tells.const _)
        · rw [if_neg o2]
          exact Tells.pos o1 out
      · rw [if_neg hp, if_neg (by decide)]
        exact Tells.neg hp out
theorem r24_Step_tells (cs : List (List Int)) (n : Int) (cl fr : List Int) (M : Nat) (hcs : ∀ c ∈ cs, c.length ≤ M ∧ ∀ x ∈ c, I64 x) (hn : I64 n) (hcg : ∀ x ∈ cl, I64 x) (hcl : cl.length < 4611686018427387904) (hf : fr.length * M + M < 17592186044000) (hfs : fr.length < 4611686018427387904) :
    Tells (fun k => sequiturref24_Step.f k cs n cl fr) (stepL cs n cl fr) := by
  unfold sequiturref24_Step.f stepL
  refine Tells.bind (r17_Right_tells cl n hcg hn hcl) ?_
  by_cases he : clauseErr cl n = 0
  · rw [if_pos he]
    refine Tells.pos he ?_
    by_cases h0 : fr.length = 0
    · rw [if_pos h0]; exact Tells.pos (by omega) (Tells.const _)
    · rw [if_neg h0]
      exact Tells.neg (by omega) (r24_Step_loop cs cl fr M hcs hcl hf hfs fr.length 0 [] rfl (by simp) (by simp) List.nodup_nil)
  · rw [if_neg he]; exact Tells.neg he (Tells.const _)
end Go.Proofs.Ytmihgbjfiigmlaa.Pu

namespace Go.Proofs.Ytmihgbjfiigmlaa.Pu
open Go.RowKit Go.Proofs.Ytmihgbjfiigmlaa.P Go.Proofs.YtmihgbjfiigmlaaW.PrintWords Go.Proofs.YtmihgbjfiigmlaaW.PrintLast Go.Proofs.YtmihgbjfiigmlaaW.PrintMore

theorem rdC_at (xs : List S43) (i : Nat) (h : i < xs.length) : rd_T43 xs (i : Int) = xs[i] := by simp [rd_T43, h]
theorem r18_Right_loop (l : List (List Int)) (n : Int) (hl : Rows64 l) (hn : I64 n) : ∀ (m i : Nat), m + i = l.length →
    ∃ x, -1 ≤ x ∧ Tells (fun k => sequiturref18_Right.l0 k (i : Int) n l) (x, clausesErr n (l.drop i))
  | 0, i, h => by
    refine ⟨0, by omega, Tells.succ (fun k => by rw [sequiturref18_Right.l0]) (Tells.neg (by omega) ?_)⟩
    rw [List.drop_of_length_le (by omega)]; exact Tells.const _
  | m + 1, i, h => by
    have hi : i < l.length := by omega
    have hc := hl.2 _ (List.getElem_mem hi)
    have hR := r17_Right_tells l[i] n hc.2 hn hc.1
    rw [List.drop_eq_getElem_cons hi, clausesErr]
    by_cases hz : clauseErr l[i] n = 0
    · obtain ⟨x, h0, hx⟩ := r18_Right_loop l n hl hn m (i + 1) (by omega)
      refine ⟨x, h0, Tells.succ (fun k => by rw [sequiturref18_Right.l0]) (Tells.pos (by omega) (Tells.pos (by omega) ?_))⟩
      rw [rdL_at _ _ hi, w64s hi hl.1]
      refine Tells.bind hR (Tells.pos hz ?_)
      rw [if_pos hz]; exact hx
    · refine ⟨(i : Int), by omega, Tells.succ (fun k => by rw [sequiturref18_Right.l0]) (Tells.pos (by omega) (Tells.pos (by omega) ?_))⟩
      rw [rdL_at _ _ hi]
      refine Tells.bind hR (Tells.neg hz ?_)
      rw [if_neg hz]; exact Tells.const _
theorem r18_Right_tells (n : Int) (l : List (List Int)) (hl : Rows64 l) (hn : I64 n) : ∃ x, -1 ≤ x ∧ Tells (fun k => sequiturref18_Right.f k n l) (x, setErr n l) := by
  unfold sequiturref18_Right.f setErr
  have stop : ∀ n : Int, Tells (fun k => sequiturref18_Right.j0 k true n l) (-1, 1) := fun n => Tells.succ (fun k => by rw [sequiturref18_Right.j0]) (Tells.pos rfl (Tells.const _))
  by_cases h0 : n < 0
  · rw [if_pos (by omega)]
    exact ⟨_, by omega, Tells.pos h0 (stop n)⟩
  by_cases h1 : n > 1024
  · rw [if_pos (by omega)]
    refine ⟨-1, by omega, Tells.neg h0 ?_⟩
    rw [decide_eq_true h1]; exact stop n
  rw [if_neg (by omega)]
  by_cases h2 : l.length > 4096
  · rw [if_pos h2]
    refine ⟨-1, by omega, Tells.neg h0 ?_⟩
    rw [decide_eq_false h1]
    exact Tells.succ (fun k => by rw [sequiturref18_Right.j0]) (Tells.neg (by decide) (Tells.pos (by omega) (Tells.const _)))
  · rw [if_neg h2]
    obtain ⟨x, hx0, hx⟩ : ∃ x, -1 ≤ x ∧ Tells (fun k => sequiturref18_Right.l0 k 0 n l) (x, clausesErr n l) := r18_Right_loop l n hl hn l.length 0 rfl
    refine ⟨x, hx0, Tells.neg h0 ?_⟩
    rw [decide_eq_false h1]
    exact Tells.succ (fun k => by rw [sequiturref18_Right.j0]) (Tells.neg (by decide) (Tells.neg (by omega) hx))
theorem r24_Check_loop (n : Int) (l : List (List Int)) (ch : List S43) (M F : Nat) (hn : I64 n) (hch : ch.length ≤ 4096) : ∀ (m i : Nat) (all : List (List Int)), m + i = ch.length → Fits M F all (ch.drop i) → all.length ≤ 4096 + i →
    Tells (fun k => sequiturref24_Check.l0 k ch all (i : Int) n l) (goC n (ch.drop i) i all)
  | 0, i, all, h, _, _ => by
    refine Tells.succ (fun k => by rw [sequiturref24_Check.l0]) (Tells.neg (by omega) ?_)
    rw [List.drop_of_length_le (by omega)]; exact Tells.const _
  | m + 1, i, all, h, hf, hs => by
    have hi : i < ch.length := by omega
    rw [List.drop_eq_getElem_cons hi] at hf ⊢
    obtain ⟨h1, h2, h3⟩ := hf.step
    refine Tells.succ (fun k => by rw [sequiturref24_Check.l0]) (Tells.pos (by omega) (Tells.pos (by omega) ?_))
    rw [rdC_at _ _ hi, goC, w64s hi (by omega)]
    refine Tells.bind (r24_Step_tells all n ch[i].f0 ch[i].f1 M hf.cs hn (hf.ch _ List.mem_cons_self).2.2 h3 h1 h2) ?_
    by_cases he : (stepL all n ch[i].f0 ch[i].f1).2.2 = 0
    · rw [if_pos he]
      exact Tells.pos he (Tells.pos (by omega) (r24_Check_loop n l ch M F hn hch m (i + 1) (all ++ [ch[i].f0]) (by omega) hf.tail (by simp; omega)))
    · rw [if_neg he]
      exact Tells.neg he (Tells.const _)
theorem setErr_len {n : Int} {l : List (List Int)} (he : setErr n l = 0) : l.length ≤ 4096 := by
  refine Decidable.byContradiction fun h => ?_
  unfold setErr at he
  split at he
  · cases he
  · rw [if_pos (by omega)] at he; cases he
theorem r24_Check_tells (n : Int) (l : List (List Int)) (ch : List S43) (M F : Nat) (hn : I64 n) (hl : Rows64 l) (hf : Fits M F l ch) : Tells (fun k => sequiturref24_Check.f k n l ch) (checkL n l ch) := by
  unfold sequiturref24_Check.f checkL
  obtain ⟨x, hx0, hx⟩ := r18_Right_tells n l hl hn
  refine Tells.bind hx ?_
  by_cases he : setErr n l = 0
  · rw [if_pos he]
    refine Tells.pos he ?_
    by_cases hc : (ch.length : Int) > 4096
    · rw [if_pos hc]; exact Tells.pos hc (Tells.const _)
    · rw [if_neg hc]
      have hlen := setErr_len he
      refine Tells.neg hc (Tells.pos (by simp; omega) ?_)
      rw [List.nil_append]
      exact r24_Check_loop n l ch M F hn (by omega) ch.length 0 l rfl hf (by omega)
  · rw [if_neg he]
    refine Tells.neg he ?_
    rw [show mn x (-1) = -1 by unfold mn; split <;> omega]
    exact Tells.const _
theorem r24_Refutes_l1 (ch : List S43) (hs : ch.length < 4611686018427387904) : ∀ (m i : Nat), m + i = ch.length →
    Tells (fun k => sequiturref24_Refutes.l1 k ch (i : Int)) (if (ch.drop i).any endsE = true then (0, 0) else ((ch.length : Int), 24))
  | 0, i, h => by
    refine Tells.succ (fun k => by rw [sequiturref24_Refutes.l1]) (Tells.neg (by omega) ?_)
    rw [List.drop_of_length_le (by omega)]; exact Tells.const _
  | m + 1, i, h => by
    have hi : i < ch.length := by omega
    refine Tells.succ (fun k => by rw [sequiturref24_Refutes.l1]) (Tells.pos (by omega) (Tells.pos (by omega) ?_))
    rw [rdC_at _ _ hi, w64s hi hs, List.drop_eq_getElem_cons hi, List.any_cons]
    by_cases he : (ch[i].f0.length : Int) = 0
    · rw [show endsE ch[i] = true from beq_iff_eq.2 he, Bool.true_or, if_pos rfl]
      exact Tells.pos he (Tells.const _)
    · rw [show endsE ch[i] = false from beq_eq_false_iff_ne.2 he, Bool.false_or]
      exact Tells.neg he (r24_Refutes_l1 ch hs m (i + 1) (by omega))
theorem r24_Refutes_l0 (n : Int) (l : List (List Int)) (ch : List S43) (hs : ch.length < 4611686018427387904) (hls : l.length < 4611686018427387904) : ∀ (m i : Nat), m + i = l.length →
    Tells (fun k => sequiturref24_Refutes.l0 k ch (i : Int) n l) (if ((l.drop i).any nilL || ch.any endsE) = true then (0, 0) else ((ch.length : Int), 24))
  | 0, i, h => by
    refine Tells.succ (fun k => by rw [sequiturref24_Refutes.l0]) ?_
    refine Tells.neg (by omega) ?_
    rw [List.drop_of_length_le (by omega), List.any_nil, Bool.false_or]
    exact r24_Refutes_l1 ch hs ch.length 0 rfl
  | m + 1, i, h => by
    have hi : i < l.length := by omega
    refine Tells.succ (fun k => by rw [sequiturref24_Refutes.l0]) (Tells.pos (by omega) (Tells.pos (by omega) ?_))
    rw [rdL_at _ _ hi, w64s hi hls, List.drop_eq_getElem_cons hi, List.any_cons]
    by_cases he : (l[i].length : Int) = 0
    · rw [show nilL l[i] = true from beq_iff_eq.2 he, Bool.true_or, Bool.true_or, if_pos rfl]
      exact Tells.pos he (Tells.const _)
    · rw [show nilL l[i] = false from beq_eq_false_iff_ne.2 he, Bool.false_or]
      exact Tells.neg he (r24_Refutes_l0 n l ch hs hls m (i + 1) (by omega))
theorem r24_Refutes_tells (n : Int) (l : List (List Int)) (ch : List S43) (M F : Nat) (hn : I64 n) (hl : Rows64 l) (hf : Fits M F l ch) (hs : ch.length < 4611686018427387904) : Tells (fun k => sequiturref24_Refutes.f k n l ch) (refutesL n l ch) := by
  unfold sequiturref24_Refutes.f refutesL
  refine Tells.bind (r24_Check_tells n l ch M F hn hl hf) ?_
  exact Tells.ite (fun he => r24_Refutes_l0 n l ch hs hl.1 l.length 0 rfl) (fun he => Tells.const _)
end Go.Proofs.Ytmihgbjfiigmlaa.Pu

namespace Go.Proofs.Ytmihgbjfiigmlaa.Pu
open Go.RowKit Go.Proofs.Ytmihgbjfiigmlaa.P Go.Proofs.YtmihgbjfiigmlaaW.PrintWords Go.Proofs.YtmihgbjfiigmlaaW.PrintLast Go.Proofs.YtmihgbjfiigmlaaW.PrintMore
/-- How many numbers chains have. -/
def sizeC (n : Int) (l : List S43) : Int := l.foldl (fun n x => wrap64 (n + (x.f1.length : Int))) n
theorem chain_Size_loop (l : List S43) (hs : l.length < 4611686018427387904) : ∀ (m i : Nat) (n : Int), m + i = l.length → Tells (fun k => chain_Size.l0 k n l (l.length : Int) (i : Int)) (sizeC n (l.drop i))
  | 0, i, n, h => by
    refine Tells.succ (fun k => by rw [chain_Size.l0]) (Tells.neg (by omega) ?_)
    rw [List.drop_of_length_le (by omega)]; exact Tells.const _
  | m + 1, i, n, h => by
    have hi : i < l.length := by omega
    refine Tells.succ (fun k => by rw [chain_Size.l0]) (Tells.pos (by omega) (Tells.pos (by omega) (Tells.pos (by omega) ?_)))
    rw [rdC_at _ _ hi, w64s hi hs, List.drop_eq_getElem_cons hi, sizeC, List.foldl_cons]
    exact chain_Size_loop l hs m (i + 1) _ (by omega)
theorem cch_loop (l : List S43) (hs : l.length < 4611686018427387904) (a b c d : Int) : ∀ (m i : Nat) (n : Int), m + i = l.length → sizeC n (l.drop i) = sizeC 0 l → Tells (fun k => sequiturlaw24_ChainChecks.l0 k l a b a b c d c d n l (l.length : Int) (i : Int)) true
  | 0, i, n, h, hz => by
    refine Tells.succ (fun k => by rw [sequiturlaw24_ChainChecks.l0]) (Tells.neg (by omega) (Tells.pos rfl (Tells.pos rfl (Tells.pos rfl (Tells.pos rfl ?_)))))
    rw [List.drop_of_length_le (by omega)] at hz
    have hz : n = sizeC 0 l := hz
    refine Tells.bind (v := sizeC 0 l) (by have := chain_Size_loop l hs l.length 0 0 rfl; exact this) ?_
    rw [hz]
    exact Tells.of_eq fun k => by simp
  | m + 1, i, n, h, hz => by
    have hi : i < l.length := by omega
    refine Tells.succ (fun k => by rw [sequiturlaw24_ChainChecks.l0]) (Tells.pos (by omega) (Tells.pos (by omega) (Tells.pos (by omega) ?_)))
    rw [rdC_at _ _ hi, w64s hi hs]
    rw [List.drop_eq_getElem_cons hi, sizeC, List.foldl_cons] at hz
    exact cch_loop l hs a b c d m (i + 1) _ (by omega) hz
theorem cch_f (n : Int) (l : List (List Int)) (ch : List S43) (hl : Rows64 l) (hn : I64 n) (hch : Chains64 ch) : Tells (fun k => sequiturlaw24_ChainChecks.f k n l ch) true := by
  unfold sequiturlaw24_ChainChecks.f
  have no : Tells (fun k => sequiturlaw24_ChainChecks.j0 k ch true n l) true := Tells.succ (fun k => by rw [sequiturlaw24_ChainChecks.j0]) (Tells.pos rfl (Tells.const _))
  refine Tells.bind alive24 (Tells.pos rfl ?_)
  obtain ⟨b, hb, h1⟩ := r18_Long_tells l 30 hl.1
  refine Tells.bind hb ?_
  cases b with
  | true => exact Tells.pos rfl no
  | false =>
    refine Tells.neg (by decide) ?_
    obtain ⟨b, hb, h2⟩ := r24_Long_tells ch 20 hch.1
    refine Tells.bind hb ?_
    cases b with
    | true => exact no
    | false =>
      have hf := fits24 hl hch (h1 rfl).2 (h2 rfl).2
      refine Tells.succ (fun k => by rw [sequiturlaw24_ChainChecks.j0]) (Tells.neg (by decide) ?_)
      refine Tells.bind (chain_Check_tells n l ch 70 40 hn hl hf) (Tells.bind (r24_Check_tells n l ch 70 40 hn hl hf) (Tells.bind (chain_Refutes_tells n l ch 70 40 hn hl hf) (Tells.bind (r24_Refutes_tells n l ch 70 40 hn hl hf hch.1) ?_)))
      exact cch_loop ch hch.1 _ _ _ _ ch.length 0 0 rfl rfl
end Go.Proofs.Ytmihgbjfiigmlaa.Pu
namespace Go.Proofs.Ytmihgbjfiigmlaa.Pure
open Go.Proofs.Ytmihgbjfiigmlaa.Pu Go.Proofs.Ytmihgbjfiigmlaa.P
theorem ChainChecks (n : Int) (l : List (List Int)) (ch : List S43) (hn : (Lit.int .i64 n).wf = true) (hl : Open.Row 24 (Open.Row 8 fun n => (Lit.int .i64 n).wf = true) l)
    (hch : Open.Row 48 (fun x : S43 => Open.Row 8 (fun n => (Lit.int .i64 n).wf = true) x.f0 ∧ Open.Row 8 (fun n => (Lit.int .i64 n).wf = true) x.f1) ch) : ∃ k, sequiturlaw24_ChainChecks.f k n l ch = some true :=
  (cch_f n l ch (rows64c hl) hn (chains64 hch)).ex
end Go.Proofs.Ytmihgbjfiigmlaa.Pure
