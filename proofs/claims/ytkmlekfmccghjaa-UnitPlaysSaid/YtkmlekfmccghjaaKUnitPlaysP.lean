import Derived.SizedLaws
import Derived.Deep.Slices
import Derived.WideShapes
import Derived.ChangeShapes
import Derived.ChangeMaps5
import Derived.Lib.SmallJoins
import Derived.ChangeSlices
import Derived.Test.YtkmlekfmccghjaaKUnitPlays1
import Derived.Test.YtkmlekfmccghjaaKUnitPlays11
import Derived.Test.YtkmlekfmccghjaaKUnitPlays2
import Derived.Test.YtkmlekfmccghjaaKUnitPlays8
import Derived.Test.YtkmlekfmccghjaaKUnitPlays3
import Derived.Test.YtkmlekfmccghjaaKUnitPlays5
import Derived.Test.YtkmlekfmccghjaaKUnitPlays6
namespace Go.Proofs.Ytkmlekfmccghjaa.Open
open Go.RowKit Go.Proofs.YtkmlekfmccghjaaW.PrintWords Go.Proofs.YtkmlekfmccghjaaW.PrintLast Go.Proofs.YtkmlekfmccghjaaW.PrintMore Go.ChangeShapes Go.WideShapes Go.Deep
def Opens (P : Program) (t : TypeId) {α : Type} (d : Kd α) (good : α → Prop) : Prop :=
  ∀ {H : Type} (enc : TypeId × Value → H) (w : World) (fuel : Nat) (cs : List Value) (x : DataW H × List MemPlace),
    DataW.trod enc P w 0 (fun _ => true) true fuel t cs = some x → (∀ n ∈ DataW.weights P t x.1, n ≤ 140737488351232) → ∃ a, Kd.FK d w (fun _ => True) a cs ∧ good a
def Row (B : Nat) {α : Type} (good : α → Prop) (xs : List α) : Prop := xs.length * B ≤ 140737488351232 ∧ ∀ x ∈ xs, good x
def I64 (n : Int) : Prop := (Lit.int .i64 n).wf = true
variable {P : Program}
theorem cell_same {w W' : World} (hW : ∀ k, (fun _ => True) k → k < w.heap.size → W'.heap[k]? = w.heap[k]?) {p : Addr} {u : Value} (h : w.cell? p = some u) : W'.cell? p = some u := by
  have hlt : p.block < w.heap.size := by
    rcases Nat.lt_or_ge p.block w.heap.size with h1 | h1
    · exact h1
    · simp [World.cell?, Array.getElem?_eq_none h1] at h
  have hb : W'.heap[p.block]? = w.heap[p.block]? := hW _ trivial hlt
  unfold World.cell? at h ⊢
  rw [hb]; exact h
theorem int_ {t : TypeId} {k : IntKind} (ht : P.underlying t = some (.int k)) : Opens P t (Kd.int k) (fun n => (Lit.int k n).wf = true) := by
  intro H enc w fuel cs x h _
  obtain ⟨n, rfl, hx, hw⟩ := DataW.trod_int ht h
  exact ⟨n, fun _ _ => rfl, hw⟩
theorem mem_weightsAll {H : Type} {e : TypeId} {n : Nat} : ∀ {l : List (DataW H)} {d : DataW H}, d ∈ l → n ∈ DataW.weights P e d → n ∈ DataW.weightsAll P e l
  | [], _, h, _ => by cases h
  | y :: l, d, h, hn => by
    rw [DataW.weightsAll]
    rcases List.mem_cons.1 h with rfl | h
    · exact List.mem_append_left _ hn
    · exact List.mem_append_right _ (mem_weightsAll h hn)
theorem slice_ {t e : TypeId} {α : Type} {d : Kd α} {good : α → Prop} {B : Nat} (ht : P.underlying t = some (.slice e)) (hd : P.cellsOf e = d.sz) (hB : P.bytesOf e = B) (hB0 : 0 < B) (he : Opens P e d good) :
    Opens P t (Kd.slice e d) (Row B good) := by
  intro H enc w fuel cs x h hx
  rcases open_slice ht h with ⟨rfl, rfl⟩ | ⟨a, len, cap, m, n, D, Pl, rfl, _, hl, hm, hmm, rfl, hel⟩
  · exact ⟨[], fun _ _ => ⟨none, 0, rfl, Nat.le_refl _, rfl, Nat.zero_le _, fun h => absurd h (Nat.lt_irrefl 0)⟩, by simp, fun x hx => by cases hx⟩
  · simp only [if_true] at hmm
    obtain rfl : m = cap := hmm
    rw [hd] at hel
    have hw : ∀ i, i < len → ∀ q ∈ DataW.weights P e (D i), q ≤ 140737488351232 := fun i hi q hq => by
      refine hx q ?_
      show q ∈ DataW.weights P t (DataW.slice _ _)
      rw [DataW.weights, ht]
      exact List.mem_cons_of_mem _ (List.mem_append_left _ (mem_weightsAll (List.mem_map.2 ⟨i, List.mem_range.2 hi, rfl⟩) hq))
    have hlen : len * B ≤ 140737488351232 := by
      have := hx ((len + (m - len)) * B) (by
        show _ ∈ DataW.weights P t (DataW.slice _ _)
        rw [DataW.weights, ht]
        simp [hB])
      exact Nat.le_trans (Nat.mul_le_mul_right _ (by omega)) this
    have hlt : len ≤ 140737488351232 := Nat.le_trans (Nat.le_mul_of_pos_right _ hB0) hlen
    have each : ∀ i, i < len → ∃ y, (∃ cs', w.cells? 0 (a.add (i * d.sz)) d.sz = some cs' ∧ Kd.FK d w (fun _ => True) y cs') ∧ good y := fun i hi => by
      obtain ⟨cs', h1, h2⟩ := hel i (by omega)
      obtain ⟨y, hy, hg⟩ := he enc w n cs' (D i, Pl i) h2 (hw i hi)
      exact ⟨y, ⟨cs', h1, hy⟩, hg⟩
    have : ∃ xs : List α, xs.length = len ∧ ∀ i y, xs[i]? = some y → (∃ cs', w.cells? 0 (a.add (i * d.sz)) d.sz = some cs' ∧ Kd.FK d w (fun _ => True) y cs') ∧ good y := by
      clear hw hlen hlt hel hx h
      clear hl
      induction len with
      | zero => exact ⟨[], rfl, fun i y h => by simp at h⟩
      | succ j ih =>
        obtain ⟨xs, hxs, hk⟩ := ih (fun i hi => each i (by omega))
        obtain ⟨y, hy⟩ := each j (by omega)
        refine ⟨xs ++ [y], by simp [hxs], fun i z hz => ?_⟩
        rcases Nat.lt_or_ge i xs.length with hi | hi
        · rw [List.getElem?_append_left hi] at hz; exact hk i z hz
        · rw [List.getElem?_append_right hi] at hz
          have : i - xs.length = 0 := by
            rcases Nat.eq_zero_or_pos (i - xs.length) with h0 | h0
            · exact h0
            · rw [List.getElem?_eq_none (by simp; omega)] at hz; cases hz
          rw [this] at hz
          simp at hz
          subst hz
          obtain rfl : i = j := by omega
          exact hy
    obtain ⟨xs, hxs, hk⟩ := this
    refine ⟨xs, fun W' hW => ⟨some a, m, by rw [hxs], by omega, ⟨rfl, by omega, fun _ => ⟨a, rfl, fun j p hj => ?_⟩⟩⟩, by rw [hxs]; exact hlen, fun y hy => ?_⟩
    · obtain ⟨⟨cs', h1, h2⟩, _⟩ := hk j p hj
      obtain ⟨_, h3, h4⟩ := World.cells?_some h1
      refine ⟨cs', h3, h2 W' hW, fun i u hu => ?_⟩
      have hi : i < d.sz := by rw [← h3]; exact (List.getElem?_eq_some_iff.1 hu).1
      have hc := h4 i hi
      rw [hu] at hc
      rw [Addr.add_add] at hc
      exact cell_same hW hc
    · obtain ⟨i, hi, rfl⟩ := List.getElem_of_mem hy
      exact (hk i _ (List.getElem?_eq_getElem hi)).2
theorem struct3_ {t : TypeId} {f0 f1 f2 : Field} {α β γ : Type} {d0 : Kd α} {d1 : Kd β} {d2 : Kd γ} {g0 : α → Prop} {g1 : β → Prop} {g2 : γ → Prop} (ht : P.underlying t = some (.struct #[f0, f1, f2])) (h0 : f0.offset = 0) (c0 : P.cellsOf f0.type = d0.sz) (h1 : f1.offset = d0.sz) (c1 : P.cellsOf f1.type = d1.sz)
    (h2 : f2.offset = d0.sz + d1.sz) (c2 : P.cellsOf f2.type = d2.sz) (hc : P.cellsOf t = d0.sz + (d1.sz + d2.sz))
    (o0 : Opens P f0.type d0 g0) (o1 : Opens P f1.type d1 g1) (o2 : Opens P f2.type d2 g2) : Opens P t (Kd.pair d0 (Kd.pair d1 d2)) (fun x => g0 x.1 ∧ g1 x.2.1 ∧ g2 x.2.2) := by
  intro H enc w fuel cs x h hx
  obtain ⟨xs, n, _, rfl, hl, hlen, hf⟩ := DataW.trod_struct ht h
  match xs, hlen with
  | [y0, y1, y2], _ =>
  have hw : ∀ (j : Nat) (f : Field) (q : DataW H), (#[f0, f1, f2] : Array Field).toList[j]? = some f → [y0.1, y1.1, y2.1][j]? = some q → ∀ m ∈ DataW.weights P f.type q, m ≤ 140737488351232 := fun j f q hf hq m hm => by
    refine hx m ?_
    show m ∈ DataW.weights P t (.agg [y0.1, y1.1, y2.1])
    rw [DataW.weights, ht]
    exact DataW.weights_mem_each (ts := (#[f0, f1, f2] : Array Field).toList.map (·.type)) (by rw [List.getElem?_map, hf]; rfl) hq m hm
  obtain ⟨a, ha, ga⟩ := o0 enc w n _ y0 (by simpa using hf 0 f0 rfl) (hw 0 f0 y0.1 rfl rfl)
  obtain ⟨b, hb, gb⟩ := o1 enc w n _ y1 (by simpa using hf 1 f1 rfl) (hw 1 f1 y1.1 rfl rfl)
  obtain ⟨c, hc', gc⟩ := o2 enc w n _ y2 (by simpa using hf 2 f2 rfl) (hw 2 f2 y2.1 rfl rfl)
  refine ⟨(a, b, c), fun W' hW => ⟨_, _, ?_, ha W' hW, _, _, rfl, hb W' hW, hc' W' hW⟩, ga, gb, gc⟩
  rw [h0, c0, h1, c1, h2, c2, List.drop_zero]
  have e1 : cs.drop (d0.sz + d1.sz) = (cs.drop d0.sz).drop d1.sz := by rw [List.drop_drop]
  rw [e1, List.take_of_length_le (l := (cs.drop d0.sz).drop d1.sz) (by rw [List.length_drop, List.length_drop]; omega), List.take_append_drop, List.take_append_drop]
theorem iso_ {t : TypeId} {α β : Type} {d : Kd α} {good : α → Prop} (f : β → α) (g : α → β) (hfg : ∀ a, f (g a) = a) (o : Opens P t d good) : Opens P t (Kd.iso d f) (fun x => good (f x)) := by
  intro H enc w fuel cs x h hx
  obtain ⟨a, ha, ga⟩ := o enc w fuel cs x h hx
  exact ⟨g a, fun W' hW => by show d.K W' (f (g a)) cs; rw [hfg]; exact ha W' hW, by show good (f (g a)); rw [hfg]; exact ga⟩
theorem slice_arg {H : Type} {enc : TypeId × Value → H} {w : World} {t e : TypeId} {α : Type} {d : Kd α} {good : List α → Prop} (ho : Opens P t (Kd.slice e d) good) {A : Option Addr} {len cap : Nat} {x : DataW H} {p : List MemPlace}
    (h : DataW.Trod enc P w 0 (fun _ => true) true t (.slice A len cap) x p) (hx : ∀ n ∈ DataW.weights P t x, n ≤ 140737488351232) :
    ∃ l : List α, len = l.length ∧ Kd.F d w (fun _ => True) A l.length l ∧ l.length ≤ cap ∧ good l := by
  obtain ⟨fuel, hf⟩ := h
  obtain ⟨l, hF, hg⟩ := ho enc w fuel _ _ hf hx
  obtain ⟨A', c, hcs, hl, hc⟩ := Kd.FK_slice_open hF
  simp [Value.cells] at hcs
  obtain ⟨rfl, rfl, rfl⟩ := hcs
  exact ⟨l, rfl, hc, hl, hg⟩
theorem slice_field {H : Type} {enc : TypeId × Value → H} {w : World} {t e : TypeId} {α : Type} {d : Kd α} {good : List α → Prop} (ho : Opens P t (Kd.slice e d) good) {v : Value} {n : Nat} {x : DataW H × List MemPlace}
    (h : DataW.trod enc P w 0 (fun _ => true) true n t [v] = some x) (hx : ∀ n ∈ DataW.weights P t x.1, n ≤ 140737488351232) :
    ∃ (A : Option Addr) (c : Nat) (l : List α), v = .slice A l.length c ∧ Kd.F d w (fun _ => True) A l.length l ∧ l.length ≤ c ∧ good l := by
  obtain ⟨l, hF, hg⟩ := ho enc w n _ _ h hx
  obtain ⟨A', c, hcs, hl, hc⟩ := Kd.FK_slice_open hF
  simp at hcs
  exact ⟨A', c, l, hcs, hc, hl, hg⟩
theorem int_field {H : Type} {enc : TypeId × Value → H} {w : World} {t : TypeId} {k : IntKind} (ht : P.underlying t = some (.int k)) {v : Value} {n : Nat} {x : DataW H × List MemPlace}
    (h : DataW.trod enc P w 0 (fun _ => true) true n t [v] = some x) : ∃ a : Int, v = .int k a ∧ (Lit.int k a).wf = true := by
  obtain ⟨a, hcs, _, hw⟩ := DataW.trod_int ht h
  simp at hcs
  exact ⟨a, hcs, hw⟩
theorem at_ {H : Type} {ts : List TypeId} {ds : List (DataW H)} (h : (DataW.weightsEach P ts ds).all (· ≤ reachBytes) = true) {j : Nat} {t : TypeId} {d : DataW H} (ht : ts[j]? = some t) (hd : ds[j]? = some d) :
    ∀ n ∈ DataW.weights P t d, n ≤ 140737488351232 := fun n hn => by
  have := List.all_eq_true.1 h _ (DataW.weights_mem_each ht hd n hn)
  exact of_decide_eq_true this
theorem fields {H : Type} {t : TypeId} {fs : Array Field} {ds : List (DataW H)} (ht : P.underlying t = some (.struct fs)) (hx : ∀ n ∈ DataW.weights P t (.agg ds), n ≤ 140737488351232) {j : Nat} {f : Field} {d : DataW H} (hf : fs.toList[j]? = some f) (hd : ds[j]? = some d) :
    ∀ n ∈ DataW.weights P f.type d, n ≤ 140737488351232 := fun n hn => by
  refine hx n ?_
  rw [DataW.weights, ht]
  exact DataW.weights_mem_each (ts := fs.toList.map (·.type)) (by simp [hf]) hd n hn
end Go.Proofs.Ytkmlekfmccghjaa.Open
namespace Go.Proofs.Ytkmlekfmccghjaa.Pu
open Go.RowKit Go.Proofs.YtkmlekfmccghjaaW.PrintWords Go.Proofs.YtkmlekfmccghjaaW.PrintLast Go.Proofs.YtkmlekfmccghjaaW.PrintMore
def Tells {α : Type} (g : Nat → Option α) (v : α) : Prop := ∃ k0, ∀ k, k0 ≤ k → g k = some v
theorem Tells.ex {α : Type} {g : Nat → Option α} {v : α} (h : Tells g v) : ∃ k, g k = some v := by
  obtain ⟨k0, h⟩ := h; exact ⟨k0, h k0 (Nat.le_refl _)⟩
theorem Tells.const {α : Type} (v : α) : Tells (fun _ => some v) v := ⟨0, fun _ _ => rfl⟩
theorem Tells.of_eq {α : Type} {g : Nat → Option α} {v : α} (h : ∀ k, g k = some v) : Tells g v := ⟨0, fun k _ => h k⟩
theorem Tells.congr {α : Type} {g h : Nat → Option α} {v : α} (e : ∀ k, g k = h k) (H : Tells h v) : Tells g v := by
  obtain ⟨k0, H⟩ := H; exact ⟨k0, fun k hk => (e k).trans (H k hk)⟩
theorem Tells.bind {α β : Type} {g : Nat → Option α} {v : α} {h : Nat → α → Option β} {u : β} (H : Tells g v) (K : Tells (fun k => h k v) u) :
    Tells (fun k => (g k).bind (h k)) u := by
  obtain ⟨k0, H⟩ := H; obtain ⟨k1, K⟩ := K
  refine ⟨k0 + k1, fun k hk => ?_⟩
  show (g k).bind (h k) = some u
  rw [H k (by omega)]; exact K k (by omega)
theorem Tells.succ {α : Type} {g h : Nat → Option α} {v : α} (e : ∀ k, g (k + 1) = h k) (H : Tells h v) : Tells g v := by
  obtain ⟨k0, H⟩ := H
  refine ⟨k0 + 1, fun k hk => ?_⟩
  obtain ⟨j, rfl⟩ : ∃ j, k = j + 1 := ⟨k - 1, by omega⟩
  exact (e j).trans (H j (by omega))
theorem Tells.mono {α : Type} {g : Nat → Option α} (hm : ∀ k, LeO (g k) (g (k + 1))) {k : Nat} {v : α} (h : g k = some v) : Tells g v :=
  ⟨k, fun _ hk => at_rounds hm hk h⟩
theorem Tells.pos {α : Type} {c : Prop} [Decidable c] {g h : Nat → Option α} {v : α} (hc : c) (H : Tells g v) : Tells (fun k => if c then g k else h k) v := by
  obtain ⟨k0, H⟩ := H; exact ⟨k0, fun k hk => (if_pos hc).trans (H k hk)⟩
theorem Tells.neg {α : Type} {c : Prop} [Decidable c] {g h : Nat → Option α} {v : α} (hc : ¬ c) (H : Tells h v) : Tells (fun k => if c then g k else h k) v := by
  obtain ⟨k0, H⟩ := H; exact ⟨k0, fun k hk => (if_neg hc).trans (H k hk)⟩
theorem Tells.ite {α : Type} {c : Prop} [Decidable c] {g h : Nat → Option α} {u v : α} (H : c → Tells g u) (K : ¬ c → Tells h v) : Tells (fun k => if c then g k else h k) (if c then u else v) := by
  by_cases hc : c
  · rw [if_pos hc]; exact Tells.pos hc (H hc)
  · rw [if_neg hc]; exact Tells.neg hc (K hc)
theorem w64 {n : Int} (h0 : -9223372036854775808 ≤ n) (h1 : n < 9223372036854775808) : wrap64 n = n := by unfold wrap64; omega
theorem w64s {i n : Nat} (h : i < n) (hn : n < 4611686018427387904) : wrap64 ((i : Int) + 1) = ((i + 1 : Nat) : Int) := by unfold wrap64; omega
theorem wf64 {n : Int} (h : (Lit.int .i64 n).wf = true) : -9223372036854775808 ≤ n ∧ n ≤ 9223372036854775807 := by
  simp only [Lit.wf, Bool.and_eq_true, decide_eq_true_eq] at h
  have a : IntKind.i64.min = -9223372036854775808 := by decide
  have b : IntKind.i64.max = 9223372036854775807 := by decide
  omega
end Go.Proofs.Ytkmlekfmccghjaa.Pu
namespace Go.Proofs.Ytkmlekfmccghjaa.Pu
open Go.RowKit Go.Proofs.Ytkmlekfmccghjaa.P Go.Proofs.YtkmlekfmccghjaaW.PrintWords Go.Proofs.YtkmlekfmccghjaaW.PrintLast Go.Proofs.YtkmlekfmccghjaaW.PrintMore
def I64 (n : Int) : Prop := (Lit.int .i64 n).wf = true
theorem I64.lo {n : Int} (h : I64 n) : -9223372036854775808 ≤ n := (wf64 h).1
theorem I64.hi {n : Int} (h : I64 n) : n ≤ 9223372036854775807 := (wf64 h).2
def litT (l : Int) (v : List Bool) : Bool := decide (l ≠ 0) && decide (l.natAbs ≤ v.length) && (v.getD (l.natAbs - 1) false == decide (l > 0))
def holds (c : List Int) (v : List Bool) : Bool := c.any fun l => litT l v
def badLit (n l : Int) : Bool := decide (l = 0 ∨ l > n ∨ l < -n)
def clauseErr (c : List Int) (n : Int) : Int := if c.length > 64 then 2 else if c.any (badLit n) then 1 else 0
theorem lit_is_eq (a : Int) : lit_is.f a = some (decide (a ≠ 0 ∧ a ≠ -9223372036854775808)) := by
  unfold lit_is.f
  by_cases h : a = 0
  · rw [if_pos h, decide_eq_false (by simp [h])]
  · rw [if_neg h]
    by_cases h2 : a = -9223372036854775808
    · rw [h2]; rfl
    · rw [decide_eq_true ⟨h, h2⟩]
      simpa using h2
theorem lit_variable_eq {a : Int} (h : I64 a) (hm : a ≠ -9223372036854775808) : lit_variable.f a = some ((a.natAbs : Nat) : Int) := by
  have := h.lo; have := h.hi
  unfold lit_variable.f mx wrap64
  split <;> (congr 1; omega)
theorem rd_at (xs : List Int) (i : Nat) (h : i < xs.length) : rd xs (i : Int) = xs[i] := by simp [rd, h]
theorem lit_Right_loop (c : List Int) (n : Int) (hc : ∀ l ∈ c, I64 l) (hn : I64 n) (hs : c.length < 4611686018427387904) : ∀ (m i : Nat), m + i = c.length →
    Tells (fun k => lit_Right.l0 k n c (c.length : Int) (i : Int)) (if (c.drop i).any (badLit n) then 1 else 0)
  | 0, i, h => by
    refine Tells.succ (fun k => by rw [lit_Right.l0]) (Tells.neg (by omega) ?_)
    rw [List.drop_of_length_le (by omega)]; exact Tells.const _
  | m + 1, i, h => by
    have hi : i < c.length := by omega
    have hl := hc _ (List.getElem_mem hi); have h1 := hl.lo; have h2 := hl.hi; have := hn.lo; have := hn.hi
    refine Tells.succ (fun k => by rw [lit_Right.l0]) (Tells.pos (by omega) (Tells.pos (by omega) (Tells.pos (by omega) ?_)))
    rw [rd_at _ _ hi, w64s hi hs, List.drop_eq_getElem_cons hi, List.any_cons, lit_is_eq]
    refine Tells.bind (Tells.const _) ?_
    by_cases hb : c[i] ≠ 0 ∧ c[i] ≠ -9223372036854775808
    · refine Tells.pos (decide_eq_true hb) ?_
      rw [lit_variable_eq hl hb.2]
      refine Tells.bind (Tells.const _) ?_
      by_cases hv : ((c[i].natAbs : Nat) : Int) > n
      · have e : badLit n c[i] = true := decide_eq_true (by omega)
        rw [e, Bool.true_or, if_pos rfl]
        exact Tells.pos hv (Tells.const _)
      · have e : badLit n c[i] = false := decide_eq_false (by omega)
        rw [e, Bool.false_or]
        exact Tells.neg hv (lit_Right_loop c n hc hn hs m (i + 1) (by omega))
    · have e : badLit n c[i] = true := decide_eq_true (by omega)
      rw [e, Bool.true_or, if_pos rfl]
      exact Tells.neg (by simpa using hb) (Tells.const _)
theorem lit_Right_tells (c : List Int) (n : Int) (hc : ∀ l ∈ c, I64 l) (hn : I64 n) (hs : c.length < 4611686018427387904) : Tells (fun k => lit_Right.f k c n) (clauseErr c n) := by
  unfold lit_Right.f clauseErr
  by_cases h : c.length > 64
  · rw [if_pos h]; exact Tells.pos (by omega) (Tells.const _)
  · rw [if_neg h]; exact Tells.neg (by omega) (lit_Right_loop c n hc hn hs c.length 0 rfl)
def clausesErr (n : Int) : List (List Int) → Int
  | [] => 0
  | c :: l => if clauseErr c n = 0 then clausesErr n l else clauseErr c n
def setErr (n : Int) (l : List (List Int)) : Int := if n < 0 ∨ n > 1024 then 1 else if l.length > 4096 then 2 else clausesErr n l
def Rows64 (l : List (List Int)) : Prop := l.length < 4611686018427387904 ∧ ∀ c ∈ l, c.length < 4611686018427387904 ∧ ∀ x ∈ c, I64 x
theorem rdL_at (xs : List (List Int)) (i : Nat) (h : i < xs.length) : rd_L3 xs (i : Int) = xs[i] := by simp [rd_L3, h]
theorem rows64 {l : List (List Int)} (h : Open.Row 24 (Open.Row 8 fun n => (Lit.int .i64 n).wf = true) l) : Rows64 l :=
  ⟨by have := h.1; omega, fun c hc => ⟨by have := (h.2 c hc).1; omega, (h.2 c hc).2⟩⟩
def ActsRow (l : List S39) : Prop := Open.Row 40 (fun x : S39 => (Lit.int .i64 x.f0).wf = true ∧ (Lit.int .i64 x.f1).wf = true ∧ Open.Row 8 (fun n => (Lit.int .i64 n).wf = true) x.f2) l
theorem acts64 {l : List S39} (h : ActsRow l) : l.length < 4611686018427387904 ∧ ∀ x ∈ l, I64 x.f1 ∧ ∀ y ∈ x.f2, I64 y :=
  ⟨by have := h.1; omega, fun x hx => ⟨(h.2 x hx).2.1, (h.2 x hx).2.2.2⟩⟩
def isL (l : Int) : Bool := decide (l ≠ 0 ∧ l ≠ -9223372036854775808)
def hasL (c : List Int) (l : Int) : Bool := isL l && c.any fun x => x == l
theorem hasL_iff {c : List Int} {l : Int} : hasL c l = true ↔ isL l = true ∧ l ∈ c := by
  unfold hasL
  rw [Bool.and_eq_true, List.any_eq_true]
  refine ⟨fun h => ⟨h.1, ?_⟩, fun h => ⟨h.1, l, h.2, by simp⟩⟩
  obtain ⟨x, hx, e⟩ := h.2
  rw [← beq_iff_eq.1 e]; exact hx
theorem lit_is_isL (a : Int) : lit_is.f a = some (isL a) := lit_is_eq a
def aheadL (a b : Int) : Bool := decide (a.natAbs < b.natAbs) || (decide (a.natAbs = b.natAbs) && decide (a < b))
def insL (x : Int) (out : List Int) : List Int := out.takeWhile (fun y => aheadL y x) ++ x :: out.dropWhile (fun y => aheadL y x)
def cleanStep (out : List Int) (x : Int) : List Int := if isL x && !hasL out x then insL x out else out
def cleanL (c : List Int) : List Int := c.foldl cleanStep []
def oppL (c : List Int) : Bool := c.any fun x => hasL c (-x)
theorem insL_mem {x y : Int} {out : List Int} : y ∈ insL x out ↔ y = x ∨ y ∈ out := by
  unfold insL
  rw [List.mem_append, List.mem_cons]
  constructor
  · rintro (h | h | h)
    · exact .inr (List.takeWhile_subset _ h)
    · exact .inl h
    · exact .inr (List.dropWhile_subset _ h)
  · rintro (h | h)
    · exact .inr (.inl h)
    · rw [← List.takeWhile_append_dropWhile (p := fun y => aheadL y x) (l := out), List.mem_append] at h
      rcases h with h | h
      · exact .inl h
      · exact .inr (.inr h)
theorem insL_length (x : Int) (out : List Int) : (insL x out).length = out.length + 1 := by
  have := congrArg List.length (List.takeWhile_append_dropWhile (p := fun y => aheadL y x) (l := out))
  unfold insL
  rw [List.length_append] at this ⊢
  rw [List.length_cons]; omega
theorem insL_nodup {x : Int} {out : List Int} (h : out.Nodup) (hx : ¬ x ∈ out) : (insL x out).Nodup := by
  have e := List.takeWhile_append_dropWhile (p := fun y => aheadL y x) (l := out)
  unfold insL
  rw [← e] at h hx
  rw [List.nodup_append] at h ⊢
  rw [List.mem_append] at hx
  refine ⟨h.1, List.nodup_cons.2 ⟨fun hh => hx (.inr hh), h.2.1⟩, fun a ha b hb => ?_⟩
  rcases List.mem_cons.1 hb with rfl | hb
  · exact fun e => hx (.inl (e ▸ ha))
  · exact h.2.2 a ha b hb
theorem cleanStep_mem {out : List Int} {x y : Int} : y ∈ cleanStep out x ↔ y ∈ out ∨ (y = x ∧ isL x = true) := by
  unfold cleanStep
  by_cases h : (isL x && !hasL out x) = true
  · rw [if_pos h, insL_mem]
    have := (Bool.and_eq_true _ _ ▸ h).1
    exact ⟨fun h => h.elim (fun e => .inr ⟨e, this⟩) .inl, fun h => h.elim .inr (fun e => .inl e.1)⟩
  · rw [if_neg h]
    refine ⟨.inl, fun h' => h'.elim id fun ⟨e, hl⟩ => ?_⟩
    have : hasL out x = true := by
      rw [hl, Bool.true_and] at h
      simpa using h
    rw [e]; exact (hasL_iff.1 this).2
theorem cleanFold_mem : ∀ (c out : List Int) {y : Int}, y ∈ c.foldl cleanStep out ↔ y ∈ out ∨ (y ∈ c ∧ isL y = true)
  | [], _, _ => by simp
  | _ :: t, _, y => by
    rw [List.foldl_cons, cleanFold_mem t, cleanStep_mem, List.mem_cons]
    constructor
    · rintro ((h | ⟨rfl, h⟩) | ⟨h, h'⟩)
      · exact .inl h
      · exact .inr ⟨.inl rfl, h⟩
      · exact .inr ⟨.inr h, h'⟩
    · rintro (h | ⟨rfl | h, h'⟩)
      · exact .inl (.inl h)
      · exact .inl (.inr ⟨rfl, h'⟩)
      · exact .inr ⟨h, h'⟩
theorem cleanL_mem {c : List Int} {y : Int} : y ∈ cleanL c ↔ y ∈ c ∧ isL y = true := by unfold cleanL; rw [cleanFold_mem]; simp
theorem cleanStep_nodup {out : List Int} {x : Int} (h : out.Nodup) : (cleanStep out x).Nodup := by
  unfold cleanStep
  by_cases hx : (isL x && !hasL out x) = true
  · rw [if_pos hx]
    refine insL_nodup h fun hm => ?_
    rw [Bool.and_eq_true] at hx
    have := hasL_iff.2 ⟨hx.1, hm⟩
    rw [this] at hx
    simp at hx
  · rw [if_neg hx]; exact h
theorem cleanFold_nodup : ∀ (c out : List Int), out.Nodup → (c.foldl cleanStep out).Nodup
  | [], _, h => h
  | _ :: t, _, h => cleanFold_nodup t _ (cleanStep_nodup h)
theorem cleanL_nodup (c : List Int) : (cleanL c).Nodup := cleanFold_nodup c [] List.nodup_nil
theorem cleanStep_length (out : List Int) (x : Int) : (cleanStep out x).length ≤ out.length + 1 := by
  unfold cleanStep
  split
  · rw [insL_length]; omega
  · omega
theorem ahead_iff {a b : Int} : aheadL a b = true ↔ a.natAbs < b.natAbs ∨ (a.natAbs = b.natAbs ∧ a < b) := by
  unfold aheadL
  simp only [Bool.or_eq_true, Bool.and_eq_true, decide_eq_true_eq]
theorem ahead_asymm {a b : Int} (h : aheadL a b = true) : ¬ aheadL b a = true := by
  rw [ahead_iff] at h ⊢; omega
theorem ahead_irrefl (a : Int) : ¬ aheadL a a = true := by
  rw [ahead_iff]; omega
theorem ahead_trans {a b c : Int} (h : aheadL a b = true) (h' : aheadL b c = true) : aheadL a c = true := by
  rw [ahead_iff] at h h' ⊢; omega
theorem ahead_total {a b : Int} (h : a ≠ b) : aheadL a b = true ∨ aheadL b a = true := by
  rw [ahead_iff, ahead_iff]; omega
theorem rising_ext : ∀ (a b : List Int), a.Pairwise (fun x y => aheadL x y = true) → b.Pairwise (fun x y => aheadL x y = true) → (∀ x, x ∈ a ↔ x ∈ b) → a = b
  | [], [], _, _, _ => rfl
  | [], y :: b, _, _, h => absurd ((h y).2 (by simp)) (by simp)
  | x :: a, [], _, _, h => absurd ((h x).1 (by simp)) (by simp)
  | x :: a, y :: b, ha, hb, h => by
    rw [List.pairwise_cons] at ha hb
    have e : x = y := by
      refine Decidable.byContradiction fun hne => ?_
      have h1 : aheadL y x = true := by
        rcases List.mem_cons.1 ((h x).1 (by simp)) with e | hm
        · exact absurd e hne
        · exact hb.1 x hm
      have h2 : aheadL x y = true := by
        rcases List.mem_cons.1 ((h y).2 (by simp)) with e | hm
        · exact absurd e.symm hne
        · exact ha.1 y hm
      exact ahead_asymm h1 h2
    subst e
    rw [rising_ext a b ha.2 hb.2 (fun z => ?_)]
    constructor
    · intro hz
      rcases List.mem_cons.1 ((h z).1 (by simp [hz])) with e | hm
      · exact absurd (ha.1 z hz) (e ▸ ahead_irrefl z)
      · exact hm
    · intro hz
      rcases List.mem_cons.1 ((h z).2 (by simp [hz])) with e | hm
      · exact absurd (hb.1 z hz) (e ▸ ahead_irrefl z)
      · exact hm
theorem insL_rises {x : Int} : ∀ {out : List Int}, out.Pairwise (fun x y => aheadL x y = true) → ¬ x ∈ out → (insL x out).Pairwise (fun x y => aheadL x y = true)
  | [], _, _ => by unfold insL; simp
  | y :: out, h, hx => by
    rw [List.pairwise_cons] at h
    have hne : y ≠ x := fun e => hx (by simp [e])
    by_cases hy : aheadL y x = true
    · have e : insL x (y :: out) = y :: insL x out := by
        unfold insL
        rw [List.takeWhile_cons_of_pos (p := fun y => aheadL y x) hy, List.dropWhile_cons_of_pos (p := fun y => aheadL y x) hy]; rfl
      rw [e, List.pairwise_cons]
      refine ⟨fun z hz => ?_, insL_rises h.2 (fun hm => hx (by simp [hm]))⟩
      rcases insL_mem.1 hz with rfl | hz
      · exact hy
      · exact h.1 z hz
    · have e : insL x (y :: out) = x :: y :: out := by
        unfold insL
        rw [List.takeWhile_cons_of_neg (p := fun y => aheadL y x) hy, List.dropWhile_cons_of_neg (p := fun y => aheadL y x) hy]; rfl
      have hxy : aheadL x y = true := (ahead_total hne).resolve_left hy
      rw [e, List.pairwise_cons, List.pairwise_cons]
      refine ⟨fun z hz => ?_, h⟩
      rcases List.mem_cons.1 hz with rfl | hz
      · exact hxy
      · exact ahead_trans hxy (h.1 z hz)
theorem cleanStep_rises {out : List Int} {x : Int} (h : out.Pairwise (fun x y => aheadL x y = true)) : (cleanStep out x).Pairwise (fun x y => aheadL x y = true) := by
  unfold cleanStep
  by_cases hc : (isL x && !hasL out x) = true
  · rw [if_pos hc]
    refine insL_rises h fun hm => ?_
    rw [Bool.and_eq_true] at hc
    have := hasL_iff.2 ⟨hc.1, hm⟩
    rw [this] at hc
    simp at hc
  · rw [if_neg hc]; exact h
theorem cleanFold_rises : ∀ (c out : List Int), out.Pairwise (fun x y => aheadL x y = true) → (c.foldl cleanStep out).Pairwise (fun x y => aheadL x y = true)
  | [], _, h => h
  | _ :: t, _, h => cleanFold_rises t _ (cleanStep_rises h)
theorem cleanL_rises (c : List Int) : (cleanL c).Pairwise (fun x y => aheadL x y = true) := cleanFold_rises c [] List.Pairwise.nil
theorem cfL_ahead {a b : Int} (ha : I64 a) (hb : I64 b) (la : isL a = true) (lb : isL b = true) : Go.Proofs.ltOf cfL a b = aheadL a b := by
  have := ha.lo; have := ha.hi; have := hb.lo; have := hb.hi
  have l1 := (of_decide_eq_true la).2
  have l2 := (of_decide_eq_true lb).2
  have e1 : mx a (wrap64 (-a)) = ((a.natAbs : Nat) : Int) := by
    unfold mx wrap64; split <;> omega
  have e2 : mx b (wrap64 (-b)) = ((b.natAbs : Nat) : Int) := by
    unfold mx wrap64; split <;> omega
  unfold Go.Proofs.ltOf
  rw [Bool.eq_iff_iff, decide_eq_true_eq, cfL_lt, e1, e2, ahead_iff]
  omega
theorem compact_mem (xs : List Int) (z : Int) : z ∈ Lib.compact xs ↔ z ∈ xs := by
  unfold Lib.compact Lib.compactUpTo
  rw [List.mem_map]
  constructor
  · rintro ⟨j, hj, rfl⟩
    have hj := List.mem_range.1 (List.mem_filter.1 hj).1
    simp [hj]
  · intro hz
    obtain ⟨i, hi, rfl⟩ := List.getElem_of_mem hz
    have key : ∀ j : Nat, j < xs.length → ∃ a, a ∈ (List.range xs.length).filter (Lib.keeps xs.toArray) ∧ xs.toArray[a]! = xs.toArray[j]! := by
      intro j
      induction j with
      | zero => exact fun h => ⟨0, List.mem_filter.2 ⟨List.mem_range.2 h, Lib.keeps_lt_one _ 0 (by omega)⟩, rfl⟩
      | succ j ih =>
        intro h
        by_cases e : xs.toArray[j + 1]! = xs.toArray[j + 1 - 1]!
        · obtain ⟨a, ha, ea⟩ := ih (by omega)
          exact ⟨a, ha, ea.trans e.symm⟩
        · exact ⟨j + 1, List.mem_filter.2 ⟨List.mem_range.2 h, Lib.keeps_pos e⟩, rfl⟩
    obtain ⟨a, ha, ea⟩ := key i hi
    exact ⟨a, ha, by rw [ea]; simp [hi]⟩
theorem compact_rises (xs : List Int) (h : xs.Pairwise (fun x y => ¬ aheadL y x = true)) : (Lib.compact xs).Pairwise (fun x y => aheadL x y = true) := by
  unfold Lib.compact Lib.compactUpTo
  rw [List.pairwise_map]
  have hs : ∀ i j : Nat, i < j → j < xs.length → ¬ aheadL xs.toArray[j]! xs.toArray[i]! = true := fun i j hij hj => by
    have := List.pairwise_iff_getElem.1 h i j (by omega) hj hij
    simpa [hj, show i < xs.length by omega] using this
  have hr : (List.range xs.length).Pairwise (· < ·) := List.pairwise_lt_range
  refine List.Pairwise.imp_of_mem (R := (· < ·)) (fun {i j} hi hj hij => ?_) (hr.filter _)
  obtain ⟨hj, hk⟩ := List.mem_filter.1 hj
  have hj := List.mem_range.1 hj
  have hk := of_decide_eq_true hk
  have hne : xs.toArray[j]! ≠ xs.toArray[j - 1]! := hk.resolve_left (by omega)
  have h1 : aheadL xs.toArray[j - 1]! xs.toArray[j]! = true := (ahead_total hne).resolve_left (hs (j - 1) j (by omega) hj)
  rcases Nat.lt_or_ge i (j - 1) with h2 | h2
  · by_cases e : xs.toArray[i]! = xs.toArray[j - 1]!
    · rw [e]; exact h1
    · exact ahead_trans ((ahead_total e).resolve_right (hs i (j - 1) h2 (by omega))) h1
  · obtain rfl : i = j - 1 := by omega
    exact h1
theorem lit_Clean_out (c : List Int) (hc : ∀ x ∈ c, I64 x) : lit_Clean.out c = cleanL c := by
  unfold lit_Clean.out
  have ef : (fun l => (lit_is.f l).getD false) = isL := funext fun l => by rw [lit_is_isL]; rfl
  rw [ef]
  have hm : ∀ z, z ∈ (c.filter isL).mergeSort (fun x y => !(Go.Proofs.ltOf cfL) y x) ↔ z ∈ c ∧ isL z = true := fun z => by rw [List.mem_mergeSort, List.mem_filter]
  refine rising_ext _ _ (compact_rises _ ?_) (cleanL_rises c) (fun z => by rw [compact_mem, hm, cleanL_mem])
  have hp := List.pairwise_mergeSort (le := fun x y => !(Go.Proofs.ltOf cfL) y x) (fun a b d h1 h2 => by
    rw [Bool.not_eq_true'] at h1 h2 ⊢
    exact cfL_swo.ntrans _ _ _ h2 h1) (fun a b => by
    rw [Bool.or_eq_true, Bool.not_eq_true', Bool.not_eq_true']
    by_cases h : Go.Proofs.ltOf cfL b a = true
    · refine .inr ?_
      rw [Bool.eq_false_iff]
      intro h'
      have := cfL_swo.trans _ _ _ h h'
      rw [cfL_swo.irrefl] at this; cases this
    · exact .inl (Bool.eq_false_iff.2 h)) (c.filter isL)
  refine hp.imp_of_mem fun {x y} hx hy h => ?_
  rw [hm] at hx hy
  rw [Bool.not_eq_true', cfL_ahead (hc _ hy.1) (hc _ hx.1) hy.2 hx.2] at h
  rw [h]; decide
theorem adjB_iff : ∀ (l : List Int), l.Pairwise (fun x y => aheadL x y = true) → (∀ x ∈ l, I64 x ∧ isL x = true) → (adjB l = true ↔ ∃ x ∈ l, -x ∈ l)
  | [], _, _ => by simp [adjB]
  | [x], _, h => by
    have h1 := of_decide_eq_true (h x (by simp)).2
    simp only [adjB, List.mem_singleton, exists_eq_left]
    constructor
    · intro h; cases h
    · intro h; omega
  | x :: y :: t, hp, h => by
    obtain ⟨hx, hp'⟩ := List.pairwise_cons.1 hp
    have ih := adjB_iff (y :: t) hp' (fun z hz => h z (List.mem_cons_of_mem _ hz))
    obtain ⟨i1, i2⟩ := h x (by simp)
    have j1 := i1.lo; have j2 := i1.hi
    have i3 := of_decide_eq_true i2
    have hw : wrap64 (-x) = -x := w64 (by omega) (by omega)
    rw [adjB, Bool.or_eq_true, ih, beq_iff_eq, hw]
    constructor
    · rintro (h | ⟨z, h1, h2⟩)
      · exact ⟨x, by simp, by simp [h]⟩
      · exact ⟨z, List.mem_cons_of_mem _ h1, List.mem_cons_of_mem _ h2⟩
    · have key : -x ∈ y :: t → y = -x := fun hm => by
        rcases List.mem_cons.1 hm with e | hm
        · exact e.symm
        · have a1 := ahead_iff.1 (hx y (by simp))
          have a2 := ahead_iff.1 ((List.pairwise_cons.1 hp').1 _ hm)
          omega
      rintro ⟨z, h1, h2⟩
      rcases List.mem_cons.1 h1 with rfl | h1
      · rcases List.mem_cons.1 h2 with e | h2
        · omega
        · exact .inl (key h2)
      · rcases List.mem_cons.1 h2 with e | h2
        · have : z = -x := by omega
          exact .inl (key (this ▸ h1))
        · exact .inr ⟨z, h1, h2⟩
theorem oppL_iff {l : List Int} (h : ∀ x ∈ l, I64 x ∧ isL x = true) : oppL l = true ↔ ∃ x ∈ l, -x ∈ l := by
  unfold oppL
  rw [List.any_eq_true]
  constructor
  · rintro ⟨x, h1, h2⟩
    exact ⟨x, h1, (hasL_iff.1 h2).2⟩
  · rintro ⟨x, h1, h2⟩
    exact ⟨x, h1, hasL_iff.2 ⟨(h _ h2).2, h2⟩⟩
theorem cleanL_good {c : List Int} (hc : ∀ x ∈ c, I64 x) : ∀ x ∈ cleanL c, I64 x ∧ isL x = true := fun x hx => by
  rw [cleanL_mem] at hx
  exact ⟨hc x hx.1, hx.2⟩
theorem cleanL_length (c : List Int) : (cleanL c).length ≤ c.length := by
  have : ∀ (c out : List Int), (c.foldl cleanStep out).length ≤ out.length + c.length := by
    intro c
    induction c with
    | nil => intro out; simp
    | cons x t ih =>
      intro out
      rw [List.foldl_cons, List.length_cons]
      have := ih (cleanStep out x); have := cleanStep_length out x
      omega
  have := this c []
  unfold cleanL
  simpa using this
theorem adjB_oppL {c : List Int} (hc : ∀ x ∈ c, I64 x) : adjB (cleanL c) = oppL (cleanL c) := by
  rw [Bool.eq_iff_iff, adjB_iff _ (cleanL_rises c) (cleanL_good hc), oppL_iff (cleanL_good hc)]
theorem lit_Clean_eq (c : List Int) (hc : ∀ x ∈ c, I64 x) (hs : c.length < 17592186044416) : lit_Clean.f c = some (cleanL c, !oppL (cleanL c)) := by
  unfold lit_Clean.f
  rw [lit_Clean_out c hc, adjB_oppL hc, if_pos ⟨hs, cleanL_length c⟩]
theorem a20_c1 : lit_Clean.f [1, 2] = some ([1, 2], true) := by
  rw [lit_Clean_eq [1, 2] (by unfold I64; decide) (by decide)]
  decide +kernel
theorem a20_c2 : lit_Clean.f [-1, 3] = some ([-1, 3], true) := by
  rw [lit_Clean_eq [-1, 3] (by unfold I64; decide) (by decide)]
  decide +kernel
def a20E : Eng := ((Eng.fresh 3).laid [1, 2]).laid [-1, 3]
theorem a20_lays : Eng.lays [[1, 2], [-1, 3]] (Eng.fresh 3) = some a20E := by
  unfold Eng.lays
  rw [a20_c1]
  show (if (Eng.fresh 3).ws + 2 < 4398046511104 ∧ (Eng.fresh 3).cls.length + 1 < 5864062014805 then Eng.lays [[-1, 3]] ((Eng.fresh 3).laid [1, 2]) else none) = some a20E
  rw [if_pos (by decide)]
  unfold Eng.lays
  rw [a20_c2]
  show (if ((Eng.fresh 3).laid [1, 2]).ws + 2 < 4398046511104 ∧ ((Eng.fresh 3).laid [1, 2]).cls.length + 1 < 5864062014805 then Eng.lays [] (((Eng.fresh 3).laid [1, 2]).laid [-1, 3]) else none) = some a20E
  rw [if_pos (by decide)]
  rfl
def a20chk : Bool := match Eng.settle 40 a20E with
  | none => false
  | some E2 => (E2.cls == [[1, 2], [-1, 3]]) && (match Eng.push 40 E2 (-2) with
    | some (E3, true) => (E3.tr == [-2, 1, 3]) && decide (E3.br < 0)
    | _ => false)
theorem a20chk_true : a20chk = true := by kernel_rfl
theorem alive20_40 : sequiturlaw20_alive.P 40 := by
  have h := a20chk_true
  unfold a20chk at h
  cases hs : Eng.settle 40 a20E with
  | none => rw [hs] at h; cases h
  | some E2 =>
    rw [hs] at h
    simp only [Bool.and_eq_true, beq_iff_eq] at h
    obtain ⟨h1, h2⟩ := h
    cases hp : Eng.push 40 E2 (-2) with
    | none => rw [hp] at h2; cases h2
    | some r =>
      obtain ⟨E3, b⟩ := r
      rw [hp] at h2
      cases b with
      | false => cases h2
      | true =>
        simp only [Bool.and_eq_true, beq_iff_eq, decide_eq_true_eq] at h2
        have hcr : cnf_Right.f 40 3 [[1, 2], [-1, 3]] = some (0, 0) := by decide +kernel
        refine ⟨E2, E3, ?_, hp, h2.1, h2.2, by decide +kernel, ?_, ?_⟩
        · unfold Eng.new
          rw [hcr]
          show ((Eng.lays [[1, 2], [-1, 3]] (Eng.fresh 3)).bind fun E => (Eng.settle 40 E).bind fun E2 => some (E2, (0 : Int))) = some (E2, 0)
          rw [a20_lays]
          show ((Eng.settle 40 a20E).bind fun E2 => some (E2, (0 : Int))) = some (E2, 0)
          rw [hs]
          rfl
        · unfold Eng.Lits
          rw [h1]
          decide
        · intro c hc r hr
          rcases List.mem_cons.1 hc with rfl | hc
          · rw [a20_c1] at hr
            injection hr with hr
            subst hr
            decide
          · rw [List.mem_singleton.1 hc, a20_c2] at hr
            injection hr with hr
            subst hr
            decide
theorem follow_mono : ∀ (k : Nat) (E : Eng) (i : Nat) {r : Eng}, Eng.follow k E i = some r → Eng.follow (k + 1) E i = some r
  | 0, E, i, r, h => by cases h
  | k + 1, E, i, r, h => by
    rw [Eng.follow] at h ⊢
    by_cases hi : i < E.tr.length
    · rw [if_pos hi] at h ⊢
      obtain ⟨q, hq, h⟩ := Option.bind_eq_some_iff.mp h
      rw [hq]
      show (if q.2 = true then some q.1 else Eng.follow (k + 1) q.1 (i + 1)) = some r
      by_cases hb : q.2 = true
      · rw [if_pos hb] at h ⊢; exact h
      · rw [if_neg hb] at h ⊢; exact follow_mono k q.1 (i + 1) h
    · rw [if_neg hi] at h ⊢; exact h
theorem settle_mono {k : Nat} {E r : Eng} (h : Eng.settle k E = some r) : Eng.settle (k + 1) E = some r := by
  unfold Eng.settle at h ⊢
  obtain ⟨q, hq, h⟩ := Option.bind_eq_some_iff.mp h
  rw [hq]
  exact follow_mono k q E.tr.length h
theorem leO_some {α : Type} {a b : Option α} (h : LeO a b) {v : α} (e : a = some v) : b = some v := h v e
theorem push_mono {k : Nat} {E : Eng} {l : Int} {r : Eng × Bool} (h : Eng.push k E l = some r) : Eng.push (k + 1) E l = some r := by
  unfold Eng.push at h ⊢
  by_cases h1 : E.br ≥ 0
  · rw [if_pos h1] at h ⊢; exact h
  · rw [if_neg h1] at h ⊢
    obtain ⟨q, hq, h⟩ := Option.bind_eq_some_iff.mp h
    rw [leO_some (lit_Right.mono _ _ _) hq]
    show (if q ≠ 0 then _ else _) = _
    by_cases h2 : q ≠ 0
    · rw [if_pos h2] at h ⊢; exact h
    · rw [if_neg h2] at h ⊢
      by_cases h3 : E.val l ≠ 0
      · rw [if_pos h3] at h ⊢; exact h
      · rw [if_neg h3] at h ⊢
        split at h
        · rename_i h4
          obtain ⟨z, hz, h⟩ := Option.bind_eq_some_iff.mp h
          rw [if_pos h4, follow_mono _ _ _ hz]
          exact h
        · cases h
theorem new_mono {k : Nat} {n : Int} {l : List (List Int)} {r : Eng × Int} (h : Eng.new k n l = some r) : Eng.new (k + 1) n l = some r := by
  unfold Eng.new at h ⊢
  obtain ⟨q, hq, h⟩ := Option.bind_eq_some_iff.mp h
  rw [leO_some (cnf_Right.mono _ _ _) hq]
  show (if q.2 ≠ 0 then _ else _) = _
  by_cases h2 : q.2 ≠ 0
  · rw [if_pos h2] at h ⊢; exact h
  · rw [if_neg h2] at h ⊢
    obtain ⟨z, hz, h⟩ := Option.bind_eq_some_iff.mp h
    obtain ⟨y, hy, h⟩ := Option.bind_eq_some_iff.mp h
    rw [hz]
    show ((Eng.settle (k + 1) z).bind fun E2 => some (E2, (0 : Int))) = some r
    rw [settle_mono hy]
    exact h
theorem alive_mono {k : Nat} (h : sequiturlaw20_alive.P k) : sequiturlaw20_alive.P (k + 1) := by
  obtain ⟨E2, E3, h1, h2, h3, h4, h5, h6, h7⟩ := h
  exact ⟨E2, E3, new_mono h1, push_mono h2, h3, h4, leO_some (sequiturbase_Ints.mono _ _ _) h5, h6, h7⟩
theorem alive_from : ∀ k, 40 ≤ k → sequiturlaw20_alive.P k := fun k hk => by
  obtain ⟨d, rfl⟩ : ∃ d, k = 40 + d := ⟨k - 40, by omega⟩
  clear hk
  induction d with
  | zero => exact alive20_40
  | succ d ih => exact alive_mono ih
def InN (n x : Int) : Prop := x ≠ 0 ∧ -n ≤ x ∧ x ≤ n
structure Fine (E : Eng) : Prop where
  n0 : 0 ≤ E.n ∧ E.n ≤ 1024
  cls : ∀ c ∈ E.cls, ∀ x ∈ c, InN E.n x
  tr : ∀ x ∈ E.tr, InN E.n x
  mks : ∀ x, (E.ms x).isSome = true ↔ x ∈ E.tr
  nd : E.tr.Nodup
  con : ∀ x ∈ E.tr, -x ∉ E.tr
  wt : ∀ x, ∀ i ∈ E.wt x, 0 ≤ i ∧ i.toNat < E.cls.length
def Neg (n : Int) (tv : Int → Bool) : Prop := ∀ x, InN n x → tv (-x) = !tv x
def Sat (tv : Int → Bool) (c : List Int) : Prop := ∃ x ∈ c, tv x = true
def Ok (tv : Int → Bool) (E : Eng) : Prop := (∀ y ∈ E.tr, tv y = true) ∧ E.br < 0
structure Grew (E E' : Eng) : Prop where
  n : E'.n = E.n
  cls : E'.cls = E.cls
  wt : E'.wt = E.wt
  ws : E'.ws = E.ws
  st : E'.st = E.st
  tr : ∃ more, E'.tr = E.tr ++ more
  ok : ∀ tv, Neg E.n tv → (∀ c ∈ E.cls, Sat tv c) → Ok tv E → Ok tv E'
theorem Grew.refl (E : Eng) : Grew E E := ⟨rfl, rfl, rfl, rfl, rfl, ⟨[], by simp⟩, fun _ _ _ h => h⟩
theorem Grew.trans {A B C : Eng} (h : Grew A B) (k : Grew B C) : Grew A C where
  n := k.n.trans h.n
  cls := k.cls.trans h.cls
  wt := k.wt.trans h.wt
  ws := k.ws.trans h.ws
  st := k.st.trans h.st
  tr := by
    obtain ⟨a, ha⟩ := h.tr
    obtain ⟨b, hb⟩ := k.tr
    exact ⟨a ++ b, by rw [hb, ha, List.append_assoc]⟩
  ok tv h1 h2 h3 := k.ok tv (by rw [h.n]; exact h1) (by rw [h.cls]; exact h2) (h.ok tv h1 h2 h3)
theorem InN.neg {n x : Int} (h : InN n x) : InN n (-x) := by unfold InN at *; omega
theorem InN.w {n x : Int} (h : InN n x) (hn : n ≤ 1024) : wrap64 (-x) = -x := by unfold InN at h; unfold wrap64; omega
theorem InN.wf {n x : Int} (h : InN n x) (hn : n ≤ 1024) : (Lit.int .i64 x).wf = true := by
  have a : IntKind.i64.min = -9223372036854775808 := by decide
  have b : IntKind.i64.max = 9223372036854775807 := by decide
  unfold InN at h
  unfold Lit.wf
  rw [Bool.and_eq_true, decide_eq_true_eq, decide_eq_true_eq]
  omega
section
variable {E : Eng}
theorem Fine.lits (h : Fine E) : E.Lits := fun c hc x hx => (h.cls c hc x hx).wf h.n0.2
theorem Fine.short (h : Fine E) : E.tr.length ≤ 2049 := by
  have := nodup_le (L := (List.range 2049).map fun i : Nat => (i : Int) - 1024) h.nd (fun x hx => by
    have h1 := h.tr x hx
    have h2 := h.n0
    unfold InN at h1
    exact List.mem_map.2 ⟨(x + 1024).toNat, List.mem_range.2 (by omega), by omega⟩)
  simpa using this
theorem Fine.val (h : Fine E) {x : Int} (hx : InN E.n x) : E.val x = if x ∈ E.tr then 1 else if -x ∈ E.tr then -1 else 0 := by
  unfold Eng.val
  rw [hx.w h.n0.2]
  by_cases h1 : x ∈ E.tr
  · rw [if_pos ((h.mks x).2 h1), if_pos h1]
  · rw [if_neg (fun e => h1 ((h.mks x).1 e)), if_neg h1]
    by_cases h2 : -x ∈ E.tr
    · rw [if_pos ((h.mks _).2 h2), if_pos h2]
    · rw [if_neg (fun e => h2 ((h.mks _).1 e)), if_neg h2]
theorem scan_some : ∀ (c : List Int) (o o' : Int), (∀ x ∈ c, x ≠ 0) → scanU E c o = some o' → (o ≠ 0 → o' = o) ∧ (∀ x ∈ c, E.val x = -1 ∨ x = o') ∧ (o' = o ∨ o' ∈ c ∧ E.val o' = 0)
  | [], o, o', _, h => by
    injection h with h
    subst h
    exact ⟨fun _ => rfl, fun x hx => by simp at hx, .inl rfl⟩
  | l :: t, o, o', hc, h => by
    have h : (if E.val l > 0 then none else if E.val l = 0 then (if o = 0 then scanU E t l else none) else scanU E t o) = some o' := h
    have ht : ∀ x ∈ t, x ≠ 0 := fun x hx => hc x (List.mem_cons_of_mem _ hx)
    have hl : l ≠ 0 := hc l (by simp)
    rcases E.val_or l with hv | hv | hv
    · rw [hv, if_pos (by decide)] at h; cases h
    · rw [hv, if_neg (by decide), if_pos rfl] at h
      by_cases ho : o = 0
      · rw [if_pos ho] at h
        obtain ⟨i1, i2, i3⟩ := scan_some t l o' ht h
        have e := i1 hl
        subst e
        refine ⟨fun hne => absurd ho hne, fun x hx => ?_, .inr ⟨by simp, hv⟩⟩
        rcases List.mem_cons.1 hx with e | hx
        · exact .inr e
        · exact i2 x hx
      · rw [if_neg ho] at h; cases h
    · rw [hv, if_neg (by decide), if_neg (by decide)] at h
      obtain ⟨i1, i2, i3⟩ := scan_some t o o' ht h
      refine ⟨i1, fun x hx => ?_, ?_⟩
      · rcases List.mem_cons.1 hx with e | hx
        · exact .inl (by rw [e]; exact hv)
        · exact i2 x hx
      · rcases i3 with i3 | i3
        · exact .inl i3
        · exact .inr ⟨List.mem_cons_of_mem _ i3.1, i3.2⟩
theorem Fine.put (h : Fine E) {l : Int} (hl : InN E.n l) (hv : E.val l = 0) (why : Int) : Fine (E.put l why) := by
  have hv2 := h.val hl
  rw [hv] at hv2
  have h1 : l ∉ E.tr := fun e => by rw [if_pos e] at hv2; exact absurd hv2 (by decide)
  have h2 : -l ∉ E.tr := fun e => by rw [if_neg h1, if_pos e] at hv2; exact absurd hv2 (by decide)
  refine ⟨h.n0, h.cls, fun x hx => ?_, fun x => ?_, ?_, fun x hx => ?_, h.wt⟩
  · have hx : x ∈ E.tr ++ [l] := hx
    rcases List.mem_append.1 hx with hx | hx
    · exact h.tr x hx
    · rw [List.mem_singleton.1 hx]; exact hl
  · show (if x = l then some ((E.st.length : Int), why) else E.ms x).isSome = true ↔ x ∈ E.tr ++ [l]
    by_cases e : x = l
    · rw [if_pos e, e]; simp
    · rw [if_neg e, h.mks x]; simp [e]
  · show (E.tr ++ [l]).Nodup
    rw [List.nodup_append]
    exact ⟨h.nd, by simp, fun a ha b hb => by rw [List.mem_singleton.1 hb]; exact fun e => h1 (e ▸ ha)⟩
  · have hx : x ∈ E.tr ++ [l] := hx
    show -x ∉ E.tr ++ [l]
    have h0 : l ≠ 0 := hl.1
    intro hn
    rcases List.mem_append.1 hx with hx | hx <;> rcases List.mem_append.1 hn with hn | hn
    · exact h.con x hx hn
    · have := List.mem_singleton.1 hn
      exact h2 (by rw [← this, Int.neg_neg]; exact hx)
    · rw [List.mem_singleton.1 hx] at hn
      exact h2 hn
    · have e1 := List.mem_singleton.1 hx
      have e2 := List.mem_singleton.1 hn
      omega
theorem Fine.br (h : Fine E) (n : Int) : Fine { E with br := n } := ⟨h.n0, h.cls, h.tr, h.mks, h.nd, h.con, h.wt⟩
theorem Fine.look (h : Fine E) {n : Nat} (hn : n < E.cls.length) : Fine (E.look n) ∧ Grew E (E.look n) := by
  have hc : ∀ x ∈ E.cls.getD n [], InN E.n x := fun x hx => by
    rw [List.getD_eq_getElem?_getD, List.getElem?_eq_getElem hn] at hx
    exact h.cls _ (List.getElem_mem hn) x hx
  have hm : E.cls.getD n [] ∈ E.cls := by
    rw [List.getD_eq_getElem?_getD, List.getElem?_eq_getElem hn]; exact List.getElem_mem hn
  unfold Eng.look
  cases hs : scanU E (E.cls.getD n []) 0 with
  | none => exact ⟨h, Grew.refl E⟩
  | some o =>
    obtain ⟨_, i2, i3⟩ := scan_some _ 0 o (fun x hx => (hc x hx).1) hs
    have hfalse : ∀ tv, Neg E.n tv → Ok tv E → ∀ x, InN E.n x → E.val x = -1 → tv x = false := fun tv hn hok x hx hv => by
      have hv2 := h.val hx
      rw [hv] at hv2
      by_cases e1 : x ∈ E.tr
      · rw [if_pos e1] at hv2; exact absurd hv2 (by decide)
      · rw [if_neg e1] at hv2
        by_cases e2 : -x ∈ E.tr
        · have := hok.1 _ e2
          rw [hn x hx] at this
          simpa using this
        · rw [if_neg e2] at hv2; exact absurd hv2 (by decide)
    show Fine (if o = 0 then { E with br := (n : Int) } else E.put o (n : Int)) ∧ Grew E (if o = 0 then { E with br := (n : Int) } else E.put o (n : Int))
    by_cases ho : o = 0
    · rw [if_pos ho]
      refine ⟨h.br _, ⟨rfl, rfl, rfl, rfl, rfl, ⟨[], by simp⟩, fun tv hneg hall hok => ?_⟩⟩
      obtain ⟨x, hx, ht⟩ := hall _ hm
      rcases i2 x hx with hv | e
      · rw [hfalse tv hneg hok x (hc x hx) hv] at ht; cases ht
      · exact absurd (e.trans ho) (hc x hx).1
    · rw [if_neg ho]
      obtain ⟨hmo, hvo⟩ := i3.resolve_left ho
      refine ⟨h.put (hc o hmo) hvo _, ⟨rfl, rfl, rfl, rfl, rfl, ⟨[o], rfl⟩, fun tv hneg hall hok => ⟨fun y hy => ?_, hok.2⟩⟩⟩
      have hy : y ∈ E.tr ++ [o] := hy
      rcases List.mem_append.1 hy with hy | hy
      · exact hok.1 y hy
      · rw [List.mem_singleton.1 hy]
        obtain ⟨x, hx, ht⟩ := hall _ hm
        rcases i2 x hx with hv | e
        · rw [hfalse tv hneg hok x (hc x hx) hv] at ht; cases ht
        · rw [← e]; exact ht
end
theorem looks_some : ∀ (l : List Int) (E : Eng), Fine E → (∀ i ∈ l, 0 ≤ i ∧ i.toNat < E.cls.length) → ∃ E' b, Eng.looks l E = some (E', b) ∧ Fine E' ∧ Grew E E'
  | [], E, h, _ => ⟨E, false, rfl, h, Grew.refl E⟩
  | n :: t, E, h, hl => by
    show ∃ E' b, (if E.br ≥ 0 then some (E, true) else if 0 ≤ n ∧ n.toNat < E.cls.length ∧ E.tr.length < 4398046511104 then Eng.looks t (E.look n.toNat) else none) = some (E', b) ∧ Fine E' ∧ Grew E E'
    by_cases hb : E.br ≥ 0
    · rw [if_pos hb]
      exact ⟨E, true, rfl, h, Grew.refl E⟩
    · obtain ⟨h1, h2⟩ := hl n (by simp)
      have h3 := h.short
      rw [if_neg hb, if_pos ⟨h1, h2, by omega⟩]
      obtain ⟨g1, g2⟩ := h.look h2
      obtain ⟨E', b, e1, e2, e3⟩ := looks_some t (E.look n.toNat) g1 (fun i hi => by rw [g2.cls]; exact hl i (List.mem_cons_of_mem _ hi))
      exact ⟨E', b, e1, e2, g2.trans e3⟩
theorem follow_tells : ∀ (m i : Nat) (E : Eng), m + i ≥ 2050 → Fine E → ∃ E', Tells (fun k => Eng.follow k E i) E' ∧ Fine E' ∧ Grew E E'
  | m, i, E, hm, h => by
    by_cases hi : i < E.tr.length
    · have hs := h.short
      cases m with
      | zero => omega
      | succ m =>
        obtain ⟨E1, b, e1, e2, e3⟩ := looks_some (E.wt (wrap64 (-(rd E.tr (i : Int))))) E h (h.wt _)
        cases b with
        | true =>
          refine ⟨E1, Tells.succ (h := fun _ => some E1) (fun k => by rw [Eng.follow, if_pos hi, e1]; rfl) (Tells.const _), e2, e3⟩
        | false =>
          obtain ⟨E2, t2, f2, g2⟩ := follow_tells m (i + 1) E1 (by omega) e2
          exact ⟨E2, Tells.succ (fun k => by rw [Eng.follow, if_pos hi, e1]; rfl) t2, f2, e3.trans g2⟩
    · exact ⟨E, Tells.succ (fun k => by rw [Eng.follow, if_neg hi]) (Tells.const _), h, Grew.refl E⟩
theorem scan_eng : ∀ (m n : Nat) (E : Eng), n + m ≤ E.cls.length → Fine E → ∃ E', Eng.scan m n E = some E' ∧ Fine E' ∧ Grew E E'
  | 0, n, E, _, h => ⟨E, rfl, h, Grew.refl E⟩
  | m + 1, n, E, hn, h => by
    show ∃ E', (if E.br < 0 then (if E.tr.length < 4398046511104 then Eng.scan m (n + 1) (E.look n) else none) else some E) = some E' ∧ Fine E' ∧ Grew E E'
    by_cases hb : E.br < 0
    · have h3 := h.short
      rw [if_pos hb, if_pos (by omega)]
      obtain ⟨g1, g2⟩ := h.look (n := n) (by omega)
      obtain ⟨E', e1, e2, e3⟩ := scan_eng m (n + 1) (E.look n) (by rw [g2.cls]; omega) g1
      exact ⟨E', e1, e2, g2.trans e3⟩
    · rw [if_neg hb]
      exact ⟨E, rfl, h, Grew.refl E⟩
theorem settle_tells {E : Eng} (h : Fine E) : ∃ E', Tells (fun k => Eng.settle k E) E' ∧ Fine E' ∧ Grew E E' := by
  obtain ⟨E1, e1, e2, e3⟩ := scan_eng E.cls.length 0 E (by omega) h
  obtain ⟨E2, t2, f2, g2⟩ := follow_tells 2050 E.tr.length E1 (by omega) e2
  refine ⟨E2, ?_, f2, e3.trans g2⟩
  unfold Eng.settle
  rw [e1]
  exact t2
theorem badLit_InN {n l : Int} : badLit n l = false ↔ InN n l := by
  unfold badLit InN
  rw [decide_eq_false_iff_not]
  omega
theorem clauseErr_one (n l : Int) : clauseErr [l] n = 0 ↔ InN n l := by
  rw [← badLit_InN]
  unfold clauseErr
  cases h : badLit n l <;> simp [h]
theorem I64n {E : Eng} (h : Fine E) : I64 E.n := by
  have a : IntKind.i64.min = -9223372036854775808 := by decide
  have b : IntKind.i64.max = 9223372036854775807 := by decide
  have := h.n0
  unfold I64 Lit.wf
  rw [Bool.and_eq_true, decide_eq_true_eq, decide_eq_true_eq]
  omega
def pushed0 (E : Eng) (l : Int) : Eng := ({ E with st := E.st ++ [(E.tr.length : Int)] } : Eng).put l (-1)
theorem push_tells {E : Eng} (h : Fine E) {l : Int} (hl : I64 l) (hst : E.st.length < 2199023255552) : ∃ E' b, Tells (fun k => Eng.push k E l) (E', b) ∧ Fine E' ∧ (b = false → E' = E ∧ (E.br ≥ 0 ∨ ¬ InN E.n l ∨ E.val l ≠ 0)) ∧
    (b = true → InN E.n l ∧ E.br < 0 ∧ E.val l = 0 ∧ Fine (pushed0 E l) ∧ Grew (pushed0 E l) E') := by
  by_cases hb : E.br ≥ 0
  · refine ⟨E, false, ?_, h, fun _ => ⟨rfl, .inl hb⟩, fun e => (by cases e)⟩
    unfold Eng.push
    exact Tells.pos hb (Tells.const _)
  · have hr := lit_Right_tells [l] E.n (fun x hx => by rw [List.mem_singleton.1 hx]; exact hl) (I64n h) (by simp)
    by_cases hi : InN E.n l
    · rw [(clauseErr_one _ _).2 hi] at hr
      by_cases hv : E.val l = 0
      · have hs := h.short
        have hf0 : Fine ({ E with st := E.st ++ [(E.tr.length : Int)] } : Eng) := ⟨h.n0, h.cls, h.tr, h.mks, h.nd, h.con, h.wt⟩
        have hf1 : Fine (pushed0 E l) := hf0.put (l := l) hi hv (-1)
        obtain ⟨E', t', f', g'⟩ := follow_tells 2050 E.tr.length (pushed0 E l) (by omega) hf1
        refine ⟨E', true, ?_, f', fun e => (by cases e), fun _ => ⟨hi, by omega, hv, hf1, g'⟩⟩
        unfold Eng.push
        exact Tells.neg hb (Tells.bind hr (Tells.neg (by decide) (Tells.neg (by simpa using hv) (Tells.pos ⟨by omega, hst⟩ (Tells.bind t' (Tells.const _))))))
      · refine ⟨E, false, ?_, h, fun _ => ⟨rfl, .inr (.inr hv)⟩, fun e => (by cases e)⟩
        unfold Eng.push
        exact Tells.neg hb (Tells.bind hr (Tells.neg (by decide) (Tells.pos hv (Tells.const _))))
    · have hne : clauseErr [l] E.n ≠ 0 := fun e => hi ((clauseErr_one _ _).1 e)
      refine ⟨E, false, ?_, h, fun _ => ⟨rfl, .inr (.inl hi)⟩, fun e => (by cases e)⟩
      unfold Eng.push
      exact Tells.neg hb (Tells.bind hr (Tells.pos hne (Tells.const _)))
theorem Fine.popped {E : Eng} (h : Fine E) (a : Nat) : Fine (E.popped a) := by
  obtain ⟨s1, s2, s3, s4, s5, s6, s7, s8⟩ := E.dels_same (E.tr.drop a)
  have hta : E.tr = E.tr.take a ++ E.tr.drop a := (List.take_append_drop a E.tr).symm
  have hnd := h.nd
  rw [hta, List.nodup_append] at hnd
  refine ⟨?_, ?_, fun x hx => ?_, fun x => ?_, hnd.1, fun x hx => ?_, fun x i hi => ?_⟩
  · show 0 ≤ (E.dels (E.tr.drop a)).n ∧ (E.dels (E.tr.drop a)).n ≤ 1024
    rw [s4]; exact h.n0
  · show ∀ c ∈ (E.dels (E.tr.drop a)).cls, ∀ x ∈ c, InN (E.dels (E.tr.drop a)).n x
    rw [s1, s4]; exact h.cls
  · show InN (E.dels (E.tr.drop a)).n x
    rw [s4]
    exact h.tr x (List.mem_of_mem_take hx)
  · show ((E.dels (E.tr.drop a)).ms x).isSome = true ↔ x ∈ E.tr.take a
    rw [s8]
    by_cases hd : x ∈ E.tr.drop a
    · rw [if_pos hd]
      exact ⟨fun e => (by cases e), fun e => absurd rfl (hnd.2.2 x e x hd)⟩
    · rw [if_neg hd, h.mks x]
      refine ⟨fun e => ?_, fun e => List.mem_of_mem_take e⟩
      rw [hta] at e
      exact (List.mem_append.1 e).resolve_right hd
  · show -x ∉ E.tr.take a
    exact fun e => h.con x (List.mem_of_mem_take hx) (List.mem_of_mem_take e)
  · have hi : i ∈ (E.dels (E.tr.drop a)).wt x := hi
    show 0 ≤ i ∧ i.toNat < (E.dels (E.tr.drop a)).cls.length
    rw [s7] at hi
    rw [s1]
    exact h.wt x i hi
theorem pop_tells {E : Eng} (h : Fine E) (hlev : ∀ a ∈ E.st, 0 ≤ a ∧ a.toNat ≤ E.tr.length) : ∃ E' b, Tells (fun k => Eng.pop k E) (E', b) ∧ Fine E' ∧ (b = false → E' = E ∧ E.st = []) ∧
    (b = true → ∃ ss a, E.st = ss ++ [a] ∧ Grew (E.popped a.toNat) E') := by
  cases hst : E.st.getLast? with
  | none =>
    refine ⟨E, false, Tells.of_eq fun k => ?_, h, fun _ => ⟨rfl, List.getLast?_eq_none_iff.1 hst⟩, fun e => (by cases e)⟩
    unfold Eng.pop
    rw [hst]
  | some a =>
    obtain ⟨ss, hss⟩ := List.getLast?_eq_some_iff.1 hst
    obtain ⟨E', t', f', g'⟩ := settle_tells (h.popped a.toNat)
    refine ⟨E', true, Tells.congr (fun k => ?_) (Tells.bind (h := fun _ E' => some (E', true)) t' (Tells.const _)), f', fun e => (by cases e), fun _ => ⟨ss, a, hss, g'⟩⟩
    unfold Eng.pop
    rw [hst]
    show (if 0 ≤ a ∧ a.toNat ≤ E.tr.length then (Eng.settle k (E.popped a.toNat)).bind fun E' => some (E', true) else none) = _
    rw [if_pos (hlev a (by rw [hss]; simp))]
theorem layW_wt (n : Int) : ∀ (c : List Int) (E : Eng) (y i : Int), i ∈ (E.layW n c).wt y → i ∈ E.wt y ∨ i = n
  | [], E, y, i, h => .inl h
  | x :: c, E, y, i, h => by
    have h : i ∈ ((E.wput n x).layW n c).wt y := h
    rcases layW_wt n c (E.wput n x) y i h with h | h
    · have h : i ∈ (if y = x then E.wt x ++ [n] else E.wt y) := h
      by_cases e : y = x
      · rw [if_pos e] at h
        rcases List.mem_append.1 h with h | h
        · exact .inl (by rw [e]; exact h)
        · exact .inr (List.mem_singleton.1 h)
      · rw [if_neg e] at h
        exact .inl h
    · exact .inr h
theorem Fine.laid {E : Eng} (h : Fine E) {c : List Int} (hc : ∀ x ∈ c, InN E.n x) : Fine (E.laid c) := by
  obtain ⟨l1, l2, l3, l4, l5, l6, l7⟩ := E.laid_same c
  refine ⟨by rw [l5]; exact h.n0, fun d hd x hx => ?_, fun x hx => ?_, fun x => by rw [l6, l2]; exact h.mks x, by rw [l2]; exact h.nd, fun x hx => ?_, fun x i hi => ?_⟩
  · rw [l3] at hd
    rw [l5]
    rcases List.mem_append.1 hd with hd | hd
    · exact h.cls d hd x hx
    · rw [List.mem_singleton.1 hd] at hx
      exact hc x hx
  · rw [l2] at hx
    rw [l5]
    exact h.tr x hx
  · rw [l2] at hx ⊢
    exact h.con x hx
  · have hi : i ∈ (E.layW (E.cls.length : Int) c).wt x := hi
    rw [l3, List.length_append, List.length_singleton]
    rcases layW_wt _ c E x i hi with hi | hi
    · obtain ⟨h1, h2⟩ := h.wt x i hi
      exact ⟨h1, by omega⟩
    · rw [hi]
      exact ⟨by omega, by omega⟩
theorem cleanL_InN {n : Int} {c : List Int} (h : ∀ x ∈ c, InN n x) : ∀ x ∈ cleanL c, InN n x := fun x hx => h x (cleanL_mem.1 hx).1
theorem InN.isL {n x : Int} (h : InN n x) (hn : n ≤ 1024) : isL x = true := by
  unfold InN at h
  unfold Pu.isL
  rw [decide_eq_true_eq]
  omega
theorem lays_some : ∀ (l : List (List Int)) (E : Eng), Fine E → (∀ c ∈ l, (∀ x ∈ c, InN E.n x) ∧ c.length ≤ 64) → E.ws + 64 * l.length < 4398046511104 → E.cls.length + l.length < 5864062014805 →
    ∃ E', Eng.lays l E = some E' ∧ Fine E' ∧ E'.n = E.n ∧ E'.st = E.st ∧ E'.tr = E.tr ∧ E'.br = E.br ∧ E'.cls = E.cls ++ l.map cleanL ∧ E'.ws ≤ E.ws + 64 * l.length
  | [], E, h, _, _, _ => ⟨E, rfl, h, rfl, rfl, rfl, rfl, by simp, by simp⟩
  | c :: l, E, h, hc, hw, hl => by
    obtain ⟨h1, h2⟩ := hc c (by simp)
    obtain ⟨l1, l2, l3, l4, l5, l6, l7⟩ := E.laid_same (cleanL c)
    have hcl := lit_Clean_eq c (fun x hx => (h1 x hx).wf h.n0.2) (by omega)
    have hlen := cleanL_length c
    rw [List.length_cons] at hw hl
    obtain ⟨E', e1, e2, e3, e4, e5, e6, e7, e8⟩ := lays_some l (E.laid (cleanL c)) (h.laid (cleanL_InN h1)) (fun d hd => by rw [l5]; exact hc d (List.mem_cons_of_mem _ hd)) (by rw [l7]; omega) (by rw [l3, List.length_append, List.length_singleton]; omega)
    refine ⟨E', ?_, e2, e3.trans l5, e4.trans l4, e5.trans l2, e6.trans l1, ?_, ?_⟩
    · show ((lit_Clean.f c).bind fun r => if E.ws + r.1.length < 4398046511104 ∧ E.cls.length + 1 < 5864062014805 then Eng.lays l (E.laid r.1) else none) = some E'
      rw [hcl]
      show (if E.ws + (cleanL c).length < 4398046511104 ∧ E.cls.length + 1 < 5864062014805 then Eng.lays l (E.laid (cleanL c)) else none) = some E'
      rw [if_pos ⟨by omega, by omega⟩]
      exact e1
    · rw [e7, l3, List.append_assoc]; rfl
    · rw [l7] at e8
      rw [List.length_cons]
      omega
theorem fresh_fine {n : Int} (h : 0 ≤ n ∧ n ≤ 1024) : Fine (Eng.fresh n) := ⟨h, fun c hc => by simp [Eng.fresh] at hc, fun x hx => by simp [Eng.fresh] at hx, fun x => by simp [Eng.fresh], by simp [Eng.fresh], fun x hx => by simp [Eng.fresh] at hx, fun x i hi => by simp [Eng.fresh] at hi⟩
theorem clauseErr_InN {c : List Int} {n : Int} (h : clauseErr c n = 0) : (∀ x ∈ c, InN n x) ∧ c.length ≤ 64 := by
  unfold clauseErr at h
  by_cases h1 : c.length > 64
  · rw [if_pos h1] at h; exact absurd h (by decide)
  · rw [if_neg h1] at h
    by_cases h2 : c.any (badLit n) = true
    · rw [if_pos h2] at h; exact absurd h (by decide)
    · refine ⟨fun x hx => badLit_InN.1 ?_, by omega⟩
      cases hb : badLit n x with
      | false => rfl
      | true => exact absurd (List.any_eq_true.2 ⟨x, hx, hb⟩) h2
theorem add_tells {E : Eng} (h : Fine E) {c : List Int} (hc : ∀ x ∈ c, I64 x) (hcs : c.length < 17592186044416) (hws : E.ws + 64 < 4398046511104) :
    ∃ E' f, Tells (fun k => Eng.add k E c) (E', f) ∧ Fine E' ∧ (f ≠ 0 → E' = E) ∧ (f = 0 → ((∀ x ∈ c, InN E.n x) ∧ c.length ≤ 64) ∧ E.cls.length < 4096 ∧ Grew (E.laid (cleanL c)) E') := by
  have hr := lit_Right_tells c E.n hc (I64n h) (by omega)
  by_cases h0 : clauseErr c E.n = 0
  · obtain ⟨g1, g2⟩ := clauseErr_InN h0
    by_cases hl : E.cls.length ≥ 4096
    · refine ⟨E, 2, ?_, h, fun _ => rfl, fun e => absurd e (by decide)⟩
      unfold Eng.add
      exact Tells.bind hr (Tells.neg (by simpa using h0) (Tells.pos hl (Tells.const _)))
    · have hlen := cleanL_length c
      have hs := h.short
      have hf := h.laid (cleanL_InN g1)
      have hcl := lit_Clean_eq c hc hcs
      obtain ⟨l1, l2, l3, l4, l5, l6, l7⟩ := E.laid_same (cleanL c)
      by_cases hb : E.br < 0
      · obtain ⟨a1, a2⟩ := hf.look (n := E.cls.length) (by rw [l3]; simp)
        obtain ⟨E', t', f', g'⟩ := follow_tells 2050 E.tr.length _ (by omega) a1
        refine ⟨E', 0, ?_, f', fun e => absurd rfl e, fun _ => ⟨⟨g1, g2⟩, by omega, a2.trans g'⟩⟩
        unfold Eng.add
        refine Tells.bind hr (Tells.neg (by simpa using h0) (Tells.neg hl ?_))
        rw [hcl]
        exact Tells.bind (Tells.const _) (Tells.pos ⟨by show E.ws + (cleanL c).length < _; omega, by omega⟩ (Tells.pos hb (Tells.bind t' (Tells.const _))))
      · refine ⟨E.laid (cleanL c), 0, ?_, hf, fun e => absurd rfl e, fun _ => ⟨⟨g1, g2⟩, by omega, Grew.refl _⟩⟩
        unfold Eng.add
        refine Tells.bind hr (Tells.neg (by simpa using h0) (Tells.neg hl ?_))
        rw [hcl]
        exact Tells.bind (Tells.const _) (Tells.pos ⟨by show E.ws + (cleanL c).length < _; omega, by omega⟩ (Tells.neg hb (Tells.const _)))
  · refine ⟨E, clauseErr c E.n, ?_, h, fun _ => rfl, fun e => absurd e h0⟩
    unfold Eng.add
    exact Tells.bind hr (Tells.pos h0 (Tells.const _))
theorem cnf_Right_loop (l : List (List Int)) (n : Int) (hl : Rows64 l) (hn : I64 n) : ∀ (m i : Nat), m + i = l.length →
    ∃ x, Tells (fun k => cnf_Right.l0 k l (l.length : Int) (i : Int) n l) (x, clausesErr n (l.drop i))
  | 0, i, h => by
    refine ⟨0, Tells.succ (fun k => by rw [cnf_Right.l0]) (Tells.neg (by omega) ?_)⟩
    rw [List.drop_of_length_le (by omega)]; exact Tells.const _
  | m + 1, i, h => by
    have hi : i < l.length := by omega
    have hc := hl.2 _ (List.getElem_mem hi)
    have hR := lit_Right_tells l[i] n hc.2 hn hc.1
    rw [List.drop_eq_getElem_cons hi, clausesErr]
    by_cases hz : clauseErr l[i] n = 0
    · obtain ⟨x, hx⟩ := cnf_Right_loop l n hl hn m (i + 1) (by omega)
      refine ⟨x, Tells.succ (fun k => by rw [cnf_Right.l0]) (Tells.pos (by omega) (Tells.pos (by omega) (Tells.pos (by omega) ?_)))⟩
      rw [rdL_at _ _ hi, w64s hi hl.1]
      refine Tells.bind hR (Tells.pos hz ?_)
      rw [if_pos hz]; exact hx
    · refine ⟨(i : Int), Tells.succ (fun k => by rw [cnf_Right.l0]) (Tells.pos (by omega) (Tells.pos (by omega) (Tells.pos (by omega) ?_)))⟩
      rw [rdL_at _ _ hi]
      refine Tells.bind hR (Tells.neg hz ?_)
      rw [if_neg hz]; exact Tells.const _
theorem cnf_Right_tells (n : Int) (l : List (List Int)) (hl : Rows64 l) (hn : I64 n) : ∃ x, Tells (fun k => cnf_Right.f k n l) (x, setErr n l) := by
  unfold cnf_Right.f setErr
  have stop : ∀ n : Int, Tells (fun k => cnf_Right.j0 k true n l) (-1, 1) := fun n => Tells.succ (fun k => by rw [cnf_Right.j0]) (Tells.pos rfl (Tells.const _))
  by_cases h0 : n < 0
  · rw [if_pos (by omega)]
    exact ⟨_, Tells.pos h0 (stop n)⟩
  by_cases h1 : n > 1024
  · rw [if_pos (by omega)]
    refine ⟨-1, Tells.neg h0 ?_⟩
    rw [decide_eq_true h1]; exact stop n
  rw [if_neg (by omega)]
  by_cases h2 : l.length > 4096
  · rw [if_pos h2]
    refine ⟨-1, Tells.neg h0 ?_⟩
    rw [decide_eq_false h1]
    exact Tells.succ (fun k => by rw [cnf_Right.j0]) (Tells.neg (by decide) (Tells.pos (by omega) (Tells.const _)))
  · rw [if_neg h2]
    obtain ⟨x, hx⟩ : ∃ x, Tells (fun k => cnf_Right.l0 k l (l.length : Int) 0 n l) (x, clausesErr n l) := cnf_Right_loop l n hl hn l.length 0 rfl
    refine ⟨x, Tells.neg h0 ?_⟩
    rw [decide_eq_false h1]
    exact Tells.succ (fun k => by rw [cnf_Right.j0]) (Tells.neg (by decide) (Tells.neg (by omega) hx))
theorem clausesErr_InN {n : Int} : ∀ {l : List (List Int)}, clausesErr n l = 0 → ∀ c ∈ l, (∀ x ∈ c, InN n x) ∧ c.length ≤ 64
  | [], _, c, hc => by simp at hc
  | d :: l, h, c, hc => by
    have h : (if clauseErr d n = 0 then clausesErr n l else clauseErr d n) = 0 := by
      have := h
      unfold clausesErr at this
      first | exact this | (split at this <;> simp_all)
    by_cases hd : clauseErr d n = 0
    · rw [if_pos hd] at h
      rcases List.mem_cons.1 hc with e | hc
      · rw [e]; exact clauseErr_InN hd
      · exact clausesErr_InN h c hc
    · rw [if_neg hd] at h; exact absurd h hd
theorem setErr_InN {n : Int} {l : List (List Int)} (h : setErr n l = 0) : (0 ≤ n ∧ n ≤ 1024) ∧ l.length ≤ 4096 ∧ ∀ c ∈ l, (∀ x ∈ c, InN n x) ∧ c.length ≤ 64 := by
  unfold setErr at h
  by_cases h1 : n < 0 ∨ n > 1024
  · rw [if_pos h1] at h; exact absurd h (by decide)
  · rw [if_neg h1] at h
    by_cases h2 : l.length > 4096
    · rw [if_pos h2] at h; exact absurd h (by decide)
    · rw [if_neg h2] at h
      exact ⟨by omega, by omega, clausesErr_InN h⟩
theorem new_tells {n : Int} {l : List (List Int)} (hn : I64 n) (hl : Rows64 l) (h : setErr n l = 0) : ∃ E0 E, Tells (fun k => Eng.new k n l) (E, 0) ∧ Fine E ∧ E0.n = n ∧ E0.st = [] ∧ E0.tr = [] ∧ E0.br = -1 ∧ E0.cls = l.map cleanL ∧ E0.ws ≤ 64 * l.length ∧ Grew E0 E := by
  obtain ⟨s1, s2, s3⟩ := setErr_InN h
  obtain ⟨x, hx⟩ := cnf_Right_tells n l hl hn
  rw [h] at hx
  obtain ⟨E0, e1, e2, e3, e4, e5, e6, e7, e8⟩ := lays_some l (Eng.fresh n) (fresh_fine s1) s3 (by show 0 + 64 * l.length < _; omega) (by show 0 + l.length < _; omega)
  obtain ⟨E, t', f', g'⟩ := settle_tells e2
  refine ⟨E0, E, ?_, f', e3, e4, e5, e6, by rw [e7]; rfl, by simpa [Eng.fresh] using e8, g'⟩
  unfold Eng.new
  refine Tells.bind hx (Tells.neg (by simp) ?_)
  rw [e1]
  exact Tells.bind (Tells.const _) (Tells.bind t' (Tells.const _))
structure Sound (E : Eng) (all : List (List Int)) (pushed : List Int) : Prop where
  len : E.st.length = pushed.length
  cls : ∀ tv, (∀ c ∈ all, Sat tv c) → ∀ c ∈ E.cls, Sat tv c
  low : ∀ (i : Nat) (a : Int), E.st[i]? = some a → ∀ tv, Neg E.n tv → (∀ c ∈ all, Sat tv c) → (∀ y ∈ pushed.take i, tv y = true) → ∀ y ∈ E.tr.take a.toNat, tv y = true
  top : ∀ tv, Neg E.n tv → (∀ c ∈ all, Sat tv c) → (∀ y ∈ pushed, tv y = true) → Ok tv E
  lev : ∀ a ∈ E.st, 0 ≤ a ∧ a.toNat ≤ E.tr.length
  up : E.st.Pairwise (· ≤ ·)
section
variable {P : Eng → Prop}
theorem looks_keeps (hP : ∀ E n, P E → E.br < 0 → n < E.cls.length → P (E.look n)) : ∀ (l : List Int) (E E' : Eng) (b : Bool), Eng.looks l E = some (E', b) → P E → P E'
  | [], E, E', b, h, p => by
    have h : some (E, false) = some (E', b) := h
    injection h with h
    injection h with h _
    rw [← h]; exact p
  | n :: t, E, E', b, h, p => by
    have h : (if E.br ≥ 0 then some (E, true) else if 0 ≤ n ∧ n.toNat < E.cls.length ∧ E.tr.length < 4398046511104 then Eng.looks t (E.look n.toNat) else none) = some (E', b) := h
    by_cases hb : E.br ≥ 0
    · rw [if_pos hb] at h
      injection h with h
      injection h with h _
      rw [← h]; exact p
    · rw [if_neg hb] at h
      split at h
      · rename_i hc
        exact looks_keeps hP t _ _ _ h (hP E n.toNat p (by omega) hc.2.1)
      · cases h
theorem follow_keeps (hP : ∀ E n, P E → E.br < 0 → n < E.cls.length → P (E.look n)) : ∀ (k : Nat) (E E' : Eng) (i : Nat), Eng.follow k E i = some E' → P E → P E'
  | 0, E, E', i, h, p => by cases h
  | k + 1, E, E', i, h, p => by
    rw [Eng.follow] at h
    split at h
    · obtain ⟨⟨E1, b⟩, h1, h2⟩ := Option.bind_eq_some_iff.mp h
      have p1 := looks_keeps hP _ _ _ _ h1 p
      have h2 : (if b = true then some E1 else Eng.follow k E1 (i + 1)) = some E' := h2
      split at h2
      · injection h2 with h2
        rw [← h2]; exact p1
      · exact follow_keeps hP k _ _ _ h2 p1
    · injection h with h
      rw [← h]; exact p
theorem scan_keeps (hP : ∀ E n, P E → E.br < 0 → n < E.cls.length → P (E.look n)) : ∀ (m n : Nat) (E E' : Eng), n + m ≤ E.cls.length → Eng.scan m n E = some E' → P E → P E'
  | 0, n, E, E', _, h, p => by
    have h : some E = some E' := h
    injection h with h
    rw [← h]; exact p
  | m + 1, n, E, E', hn, h, p => by
    have h : (if E.br < 0 then (if E.tr.length < 4398046511104 then Eng.scan m (n + 1) (E.look n) else none) else some E) = some E' := h
    by_cases hb : E.br < 0
    · rw [if_pos hb] at h
      split at h
      · exact scan_keeps hP m (n + 1) _ _ (by rw [(E.look_cls n).1]; omega) h (hP E n p hb (by omega))
      · cases h
    · rw [if_neg hb] at h
      injection h with h
      rw [← h]; exact p
theorem settle_keeps (hP : ∀ E n, P E → E.br < 0 → n < E.cls.length → P (E.look n)) {k : Nat} {E E' : Eng} (h : Eng.settle k E = some E') (p : P E) : P E' := by
  unfold Eng.settle at h
  obtain ⟨E1, h1, h2⟩ := Option.bind_eq_some_iff.mp h
  exact follow_keeps hP _ _ _ _ h2 (scan_keeps hP _ _ _ _ (by omega) h1 p)
end
theorem push_inv {k : Nat} {E E' : Eng} {l : Int} (h : Eng.push k E l = some (E', true)) : E.br < 0 ∧ E.val l = 0 ∧ Eng.follow k (pushed0 E l) E.tr.length = some E' := by
  unfold Eng.push at h
  by_cases h1 : E.br ≥ 0
  · rw [if_pos h1] at h
    injection h with h
    injection h with _ h
    cases h
  · rw [if_neg h1] at h
    obtain ⟨q, _, h⟩ := Option.bind_eq_some_iff.mp h
    split at h
    · injection h with h
      injection h with _ h
      cases h
    · split at h
      · injection h with h
        injection h with _ h
        cases h
      · rename_i h3
        split at h
        · obtain ⟨z, hz, h⟩ := Option.bind_eq_some_iff.mp h
          injection h with h
          injection h with h _
          rw [← h]
          exact ⟨by omega, Decidable.not_not.1 h3, hz⟩
        · cases h
theorem pop_inv {k : Nat} {E E' : Eng} (h : Eng.pop k E = some (E', true)) : ∃ ss a, E.st = ss ++ [a] ∧ Eng.settle k (E.popped a.toNat) = some E' := by
  unfold Eng.pop at h
  cases hst : E.st.getLast? with
  | none =>
    rw [hst] at h
    injection h with h
    injection h with _ h
    cases h
  | some a =>
    rw [hst] at h
    obtain ⟨ss, hss⟩ := List.getLast?_eq_some_iff.1 hst
    have h : (if 0 ≤ a ∧ a.toNat ≤ E.tr.length then (Eng.settle k (E.popped a.toNat)).bind fun E' => some (E', true) else none) = some (E', true) := h
    split at h
    · obtain ⟨z, hz, h⟩ := Option.bind_eq_some_iff.mp h
      injection h with h
      injection h with h _
      rw [← h]
      exact ⟨ss, a, hss, hz⟩
    · cases h
theorem add_inv {k : Nat} {E E' : Eng} {c : List Int} (hc : ∀ x ∈ c, I64 x) (hcs : c.length < 17592186044416) (h : Eng.add k E c = some (E', 0)) :
    (E.br < 0 → Eng.follow k ((E.laid (cleanL c)).look E.cls.length) E.tr.length = some E') ∧ (E.br ≥ 0 → E' = E.laid (cleanL c)) := by
  unfold Eng.add at h
  obtain ⟨q, _, h⟩ := Option.bind_eq_some_iff.mp h
  split at h
  · rename_i h1
    injection h with h
    injection h with _ h
    exact absurd h h1
  · split at h
    · injection h with h
      injection h with _ h
      exact absurd h (by decide)
    · rw [lit_Clean_eq c hc hcs] at h
      obtain ⟨r, hr, h⟩ := Option.bind_eq_some_iff.mp h
      injection hr with hr
      rw [← hr] at h
      split at h
      · split at h
        · rename_i hb
          obtain ⟨z, hz, h⟩ := Option.bind_eq_some_iff.mp h
          injection h with h
          injection h with h _
          rw [← h]
          exact ⟨fun _ => hz, fun h => by omega⟩
        · rename_i hb
          injection h with h
          injection h with h _
          exact ⟨fun h => absurd h hb, fun _ => h.symm⟩
      · cases h
def Quiet (E : Eng) (c : List Int) : Prop := scanU E c 0 = none
theorem scan_none {E : Eng} : ∀ (c : List Int) (o : Int), (∀ x ∈ c, x ≠ 0) → (scanU E c o = none ↔ (∃ x ∈ c, E.val x > 0) ∨ 2 ≤ (c.filter fun x => decide (E.val x = 0)).length + (if o = 0 then 0 else 1))
  | [], o, _ => by
    refine ⟨fun h => (by cases h), fun h => ?_⟩
    rcases h with ⟨x, hx, _⟩ | h
    · cases hx
    · simp at h
      split at h <;> omega
  | l :: t, o, hc => by
    have ht : ∀ x ∈ t, x ≠ 0 := fun x hx => hc x (List.mem_cons_of_mem _ hx)
    have hl : l ≠ 0 := hc l (by simp)
    show (if E.val l > 0 then none else if E.val l = 0 then (if o = 0 then scanU E t l else none) else scanU E t o) = none ↔ _
    rcases E.val_or l with hv | hv | hv
    · rw [hv, if_pos (by decide)]
      exact ⟨fun _ => .inl ⟨l, by simp, by rw [hv]; decide⟩, fun _ => rfl⟩
    · rw [hv, if_neg (by decide), if_pos rfl, List.filter_cons_of_pos (by simpa using hv), List.length_cons]
      have ex : (∃ x ∈ l :: t, E.val x > 0) ↔ ∃ x ∈ t, E.val x > 0 := by
        refine ⟨fun ⟨x, hx, h⟩ => ?_, fun ⟨x, hx, h⟩ => ⟨x, List.mem_cons_of_mem _ hx, h⟩⟩
        rcases List.mem_cons.1 hx with e | hx
        · rw [e, hv] at h; exact absurd h (by decide)
        · exact ⟨x, hx, h⟩
      rw [ex]
      by_cases ho : o = 0
      · rw [if_pos ho, if_pos ho, scan_none t l ht, if_neg hl]
      · rw [if_neg ho, if_neg ho]
        exact ⟨fun _ => .inr (by omega), fun _ => rfl⟩
    · rw [hv, if_neg (by decide), if_neg (by decide), List.filter_cons_of_neg (by rw [hv]; decide)]
      have ex : (∃ x ∈ l :: t, E.val x > 0) ↔ ∃ x ∈ t, E.val x > 0 := by
        refine ⟨fun ⟨x, hx, h⟩ => ?_, fun ⟨x, hx, h⟩ => ⟨x, List.mem_cons_of_mem _ hx, h⟩⟩
        rcases List.mem_cons.1 hx with e | hx
        · rw [e, hv] at h; exact absurd h (by decide)
        · exact ⟨x, hx, h⟩
      rw [ex]
      exact scan_none t o ht
theorem quiet_iff {E : Eng} {c : List Int} (hc : ∀ x ∈ c, x ≠ 0) : Quiet E c ↔ (∃ x ∈ c, E.val x > 0) ∨ 2 ≤ (c.filter fun x => decide (E.val x = 0)).length := by
  unfold Quiet
  rw [scan_none c 0 hc, if_pos rfl, Nat.add_zero]
theorem quiet_congr {E E' : Eng} {c : List Int} (h : ∀ x ∈ c, E'.val x = E.val x) : ∀ o, scanU E' c o = scanU E c o := by
  induction c with
  | nil => exact fun _ => rfl
  | cons l t ih =>
    intro o
    have ih := ih (fun x hx => h x (List.mem_cons_of_mem _ hx))
    show (if E'.val l > 0 then none else if E'.val l = 0 then (if o = 0 then scanU E' t l else none) else scanU E' t o) = (if E.val l > 0 then none else if E.val l = 0 then (if o = 0 then scanU E t l else none) else scanU E t o)
    rw [h l (by simp), ih, ih]
section
variable {E : Eng}
theorem Fine.val_put (h : Fine E) {l : Int} (hl : InN E.n l) (hv : E.val l = 0) (why : Int) {x : Int} (hx : InN E.n x) : (E.put l why).val x = if x = l then 1 else if x = -l then -1 else E.val x := by
  have hp := h.put hl hv why
  rw [hp.val hx, h.val hx]
  show (if x ∈ E.tr ++ [l] then (1 : Int) else if -x ∈ E.tr ++ [l] then -1 else 0) = _
  have hv2 := h.val hl
  rw [hv] at hv2
  have h1 : l ∉ E.tr := fun e => by rw [if_pos e] at hv2; exact absurd hv2 (by decide)
  have h2 : -l ∉ E.tr := fun e => by rw [if_neg h1, if_pos e] at hv2; exact absurd hv2 (by decide)
  have h0 : l ≠ 0 := hl.1
  simp only [List.mem_append, List.mem_singleton]
  by_cases e1 : x = l
  · rw [if_pos (.inr e1), if_pos e1]
  · rw [if_neg e1]
    by_cases e2 : x = -l
    · rw [if_pos e2, if_neg (fun h => h.elim (fun h => h2 (e2 ▸ h)) e1), if_pos (.inr (by omega))]
    · rw [if_neg e2]
      have n1 : ¬ (-x = l) := fun e => e2 (by omega)
      by_cases e3 : x ∈ E.tr
      · rw [if_pos (.inl e3), if_pos e3]
      · rw [if_neg (fun h => h.elim e3 e1), if_neg e3]
        by_cases e4 : -x ∈ E.tr
        · rw [if_pos (.inl e4), if_pos e4]
        · rw [if_neg (fun h => h.elim e4 n1), if_neg e4]
theorem Fine.quiet_put (h : Fine E) {l : Int} (hl : InN E.n l) (hv : E.val l = 0) (why : Int) {c : List Int} (hc : ∀ x ∈ c, InN E.n x) (hq : Quiet E c) (hn : -l ∉ c) : Quiet (E.put l why) c := by
  have h0 : ∀ x ∈ c, x ≠ 0 := fun x hx => (hc x hx).1
  rw [quiet_iff h0] at hq ⊢
  by_cases hlc : l ∈ c
  · exact .inl ⟨l, hlc, by rw [h.val_put hl hv why hl, if_pos rfl]; decide⟩
  · have same : ∀ x ∈ c, (E.put l why).val x = E.val x := fun x hx => by
      rw [h.val_put hl hv why (hc x hx), if_neg (fun e : x = l => hlc (e ▸ hx)), if_neg (fun e : x = -l => hn (e ▸ hx))]
    rcases hq with ⟨x, hx, hp⟩ | hq
    · exact .inl ⟨x, hx, by rw [same x hx]; exact hp⟩
    · refine .inr ?_
      have : (c.filter fun x => decide ((E.put l why).val x = 0)) = c.filter fun x => decide (E.val x = 0) := List.filter_congr fun x hx => by rw [same x hx]
      rw [this]; exact hq
theorem Fine.put_quiet (h : Fine E) {l : Int} (hl : InN E.n l) (hv : E.val l = 0) (why : Int) {c : List Int} (hc : ∀ x ∈ c, InN E.n x) (hlc : l ∈ c) : Quiet (E.put l why) c := by
  rw [quiet_iff (fun x hx => (hc x hx).1)]
  exact .inl ⟨l, hlc, by rw [h.val_put hl hv why hl, if_pos rfl]; decide⟩
end
def Wts (E : Eng) : Prop := ∀ (j : Nat) (c : List Int), E.cls[j]? = some c → ∀ x ∈ c, (j : Int) ∈ E.wt x
def Pend (E : Eng) (m : Nat) (R : Nat → Prop) : Prop := ∀ (j : Nat) (c : List Int), E.cls[j]? = some c → ¬ Quiet E c → (∃ x ∈ c, -x ∈ E.tr.drop m) ∨ R j
def Still (E : Eng) : Prop := ∀ c ∈ E.cls, Quiet E c
theorem Pend.look {E : Eng} (h : Fine E) {m : Nat} (hm : m ≤ E.tr.length) {R : Nat → Prop} {n : Nat} (hn : n < E.cls.length) (hp : Pend E m R) (hb : (E.look n).br < 0) : Pend (E.look n) m (fun j => R j ∧ j ≠ n) := by
  have hcn : E.cls[n]? = some (E.cls.getD n []) := by rw [List.getD_eq_getElem?_getD, List.getElem?_eq_getElem hn]; rfl
  have hin : ∀ {c : List Int} {j : Nat}, E.cls[j]? = some c → ∀ x ∈ c, InN E.n x := fun hj x hx => h.cls _ (List.mem_of_getElem? hj) x hx
  unfold Eng.look at hb ⊢
  cases hs : scanU E (E.cls.getD n []) 0 with
  | none =>
    intro j c hj hq
    rcases hp j c hj hq with h1 | h1
    · exact .inl h1
    · refine .inr ⟨h1, fun e => hq ?_⟩
      rw [e, hcn] at hj
      injection hj with hj
      rw [← hj]; exact hs
  | some o =>
    rw [hs] at hb
    have hb : (if o = 0 then { E with br := (n : Int) } else E.put o (n : Int)).br < 0 := hb
    show Pend (if o = 0 then { E with br := (n : Int) } else E.put o (n : Int)) m (fun j => R j ∧ j ≠ n)
    obtain ⟨_, i2, i3⟩ := scan_some _ 0 o (fun x hx => (hin hcn x hx).1) hs
    by_cases ho : o = 0
    · rw [if_pos ho] at hb
      exact absurd hb (by show ¬ ((n : Int) < 0); omega)
    · rw [if_neg ho]
      obtain ⟨hmo, hvo⟩ := i3.resolve_left ho
      have hio := hin hcn o hmo
      intro j c hj hq
      have hj : E.cls[j]? = some c := hj
      by_cases hq0 : Quiet E c
      · refine .inl ⟨-o, ?_, ?_⟩
        · exact Classical.byContradiction fun hno => hq (h.quiet_put hio hvo _ (hin hj) hq0 hno)
        · show -(-o) ∈ (E.tr ++ [o]).drop m
          rw [Int.neg_neg, List.drop_append_of_le_length hm]
          simp
      · rcases hp j c hj hq0 with ⟨x, hx, hd⟩ | h1
        · refine .inl ⟨x, hx, ?_⟩
          show -x ∈ (E.tr ++ [o]).drop m
          rw [List.drop_append_of_le_length hm]
          exact List.mem_append_left _ hd
        · refine .inr ⟨h1, fun e => hq ?_⟩
          rw [e, hcn] at hj
          injection hj with hj
          rw [← hj]
          exact h.put_quiet hio hvo _ (hin hcn) hmo
theorem Grew.len {E E' : Eng} (g : Grew E E') : E.tr.length ≤ E'.tr.length := by
  obtain ⟨more, e⟩ := g.tr
  rw [e, List.length_append]; omega
theorem looks_pend {m : Nat} : ∀ (l : List Int) (E E' : Eng) (b : Bool), Eng.looks l E = some (E', b) → Fine E → m ≤ E.tr.length → (∀ i ∈ l, 0 ≤ i ∧ i.toNat < E.cls.length) → (E.br < 0 → Pend E m (fun j => (j : Int) ∈ l)) → E'.br < 0 → Pend E' m (fun _ => False) ∧ b = false
  | [], E, E', b, h, f, hm, _, hp, hb => by
    have h : some (E, false) = some (E', b) := h
    injection h with h
    injection h with h1 h2
    subst h1
    refine ⟨fun j c hj hq => ?_, h2.symm⟩
    rcases hp hb j c hj hq with h | h
    · exact .inl h
    · cases h
  | n :: t, E, E', b, h, f, hm, hl, hp, hb => by
    have h : (if E.br ≥ 0 then some (E, true) else if 0 ≤ n ∧ n.toNat < E.cls.length ∧ E.tr.length < 4398046511104 then Eng.looks t (E.look n.toNat) else none) = some (E', b) := h
    by_cases hbr : E.br ≥ 0
    · rw [if_pos hbr] at h
      injection h with h
      injection h with h1 h2
      subst h1
      omega
    · rw [if_neg hbr] at h
      obtain ⟨n0, n1⟩ := hl n (by simp)
      split at h
      · obtain ⟨g1, g2⟩ := f.look n1
        refine looks_pend t _ _ _ h g1 (Nat.le_trans hm g2.len) (fun i hi => by rw [g2.cls]; exact hl i (List.mem_cons_of_mem _ hi)) (fun hb1 => ?_) hb
        intro j c hj hq
        rcases Pend.look f hm n1 (hp (by omega)) hb1 j c hj hq with h | ⟨h, hne⟩
        · exact .inl h
        · rcases List.mem_cons.1 h with e | h
          · exact absurd (by omega) hne
          · exact .inr h
      · cases h
theorem follow_still : ∀ (k : Nat) (E E' : Eng) (i : Nat), Eng.follow k E i = some E' → Fine E → Wts E → (E.br < 0 → Pend E i (fun _ => False)) → E'.br < 0 → Still E'
  | 0, E, E', i, h, _, _, _, _ => by cases h
  | k + 1, E, E', i, h, f, hw, hp, hb => by
    rw [Eng.follow] at h
    split at h
    · rename_i hi
      obtain ⟨⟨E1, b⟩, h1, h2⟩ := Option.bind_eq_some_iff.mp h
      obtain ⟨y, hy⟩ : ∃ y, E.tr[i] = y := ⟨_, rfl⟩
      have hrd : rd E.tr (i : Int) = y := by simp [rd, hi, hy]
      have hin := f.tr y (by rw [← hy]; exact List.getElem_mem hi)
      rw [hrd, hin.w f.n0.2] at h1
      have hlk := looks_pend (m := i + 1) _ _ _ _ h1 f (by omega) (f.wt _) (fun hbr j c hj hq => by
        rcases hp hbr j c hj hq with ⟨x, hx, hd⟩ | h
        · rw [List.drop_eq_getElem_cons hi, hy] at hd
          rcases List.mem_cons.1 hd with e | hd
          · refine .inr ?_
            have : x = -y := by omega
            rw [← this]
            exact hw j c hj x hx
          · exact .inl ⟨x, hx, hd⟩
        · cases h)
      obtain ⟨E1', b', e1, e2, e3⟩ := looks_some (E.wt (-y)) E f (f.wt _)
      rw [h1] at e1
      injection e1 with e1
      injection e1 with e1 _
      subst e1
      have h2 : (if b = true then some E1 else Eng.follow k E1 (i + 1)) = some E' := h2
      split at h2
      · rename_i hbt
        injection h2 with h2
        subst h2
        rw [(hlk hb).2] at hbt
        cases hbt
      · exact follow_still k E1 E' (i + 1) h2 e2 (by unfold Wts; rw [e3.cls, e3.wt]; exact hw) (fun hb1 => (hlk hb1).1) hb
    · rename_i hi
      injection h with h
      subst h
      intro c hc
      obtain ⟨j, hj⟩ := List.mem_iff_getElem?.1 hc
      refine Classical.byContradiction fun hq => ?_
      rcases hp hb j c hj hq with ⟨x, _, hd⟩ | h
      · rw [List.drop_of_length_le (by omega)] at hd
        cases hd
      · exact h
theorem scan_pend {f0 : Nat} : ∀ (m n : Nat) (E E' : Eng), n + m = E.cls.length → Eng.scan m n E = some E' → Fine E → f0 ≤ E.tr.length → (E.br < 0 → Pend E f0 (fun j => n ≤ j)) → E'.br < 0 → Pend E' f0 (fun _ => False)
  | 0, n, E, E', hn, h, f, hf, hp, hb => by
    have h : some E = some E' := h
    injection h with h
    subst h
    intro j c hj hq
    rcases hp hb j c hj hq with h | h
    · exact .inl h
    · have := (List.getElem?_eq_some_iff.1 hj).1
      omega
  | m + 1, n, E, E', hn, h, f, hf, hp, hb => by
    have h : (if E.br < 0 then (if E.tr.length < 4398046511104 then Eng.scan m (n + 1) (E.look n) else none) else some E) = some E' := h
    by_cases hbr : E.br < 0
    · rw [if_pos hbr] at h
      split at h
      · obtain ⟨g1, g2⟩ := f.look (n := n) (by omega)
        refine scan_pend m (n + 1) _ _ (by rw [g2.cls]; omega) h g1 (Nat.le_trans hf g2.len) (fun hb1 => ?_) hb
        intro j c hj hq
        rcases Pend.look f hf (by omega) (hp hbr) hb1 j c hj hq with h | ⟨h, hne⟩
        · exact .inl h
        · exact .inr (by omega)
      · cases h
    · rw [if_neg hbr] at h
      injection h with h
      subst h
      omega
theorem settle_still {k : Nat} {E E' : Eng} (h : Eng.settle k E = some E') (f : Fine E) (hw : Wts E) (hb : E'.br < 0) : Still E' := by
  unfold Eng.settle at h
  obtain ⟨E1, h1, h2⟩ := Option.bind_eq_some_iff.mp h
  obtain ⟨E1', e1, e2, e3⟩ := scan_eng E.cls.length 0 E (by omega) f
  rw [h1] at e1
  injection e1 with e1
  subst e1
  exact follow_still k E1 E' E.tr.length h2 e2 (by unfold Wts; rw [e3.cls, e3.wt]; exact hw)
    (fun hb1 => scan_pend E.cls.length 0 E E1 (by omega) h1 f (Nat.le_refl _) (fun _ j c _ _ => .inr (Nat.zero_le _)) hb1) hb
def cnt (st : List Int) (i : Nat) : Int := ((st.filter fun a => decide (a ≤ (i : Int))).length : Nat)
def Forced (cls : List (List Int)) (before : List Int) (x why : Int) : Prop := 0 ≤ why ∧ why.toNat < cls.length ∧ x ∈ cls.getD why.toNat [] ∧ ∀ y ∈ cls.getD why.toNat [], y ≠ x → -y ∈ before
def Just (E : Eng) : Prop := ∀ (i : Nat) (x : Int), E.tr[i]? = some x → ∃ why, E.ms x = some (cnt E.st i, why) ∧ ((i : Int) ∈ E.st → why = -1) ∧ ((i : Int) ∉ E.st → Forced E.cls (E.tr.take i) x why)
def Breaks (E : Eng) : Prop := (E.br < 0 → E.br = -1) ∧ (0 ≤ E.br → E.br.toNat < E.cls.length ∧ ∀ y ∈ E.cls.getD E.br.toNat [], -y ∈ E.tr)
structure Base (E : Eng) : Prop where
  fine : Fine E
  wts : Wts E
  inc : E.st.Pairwise (· < ·)
  low : ∀ a ∈ E.st, 0 ≤ a ∧ a.toNat < E.tr.length
  just : Just E
  brk : Breaks E
structure Well (E : Eng) : Prop extends Base E where
  still : E.br < 0 → Still E
theorem getD_at {α : Type} {l : List α} {n : Nat} {d : α} (h : n < l.length) : l[n]? = some (l.getD n d) := by
  rw [List.getD_eq_getElem?_getD, List.getElem?_eq_getElem h]; rfl
theorem getD_mem {α : Type} {l : List α} {n : Nat} {d : α} (h : n < l.length) : l.getD n d ∈ l := List.mem_of_getElem? (getD_at h)
section
variable {E : Eng}
theorem Fine.false_iff (h : Fine E) {x : Int} (hx : InN E.n x) (hv : E.val x = -1) : -x ∈ E.tr := by
  have hv2 := h.val hx
  rw [hv] at hv2
  by_cases e1 : x ∈ E.tr
  · rw [if_pos e1] at hv2; exact absurd hv2 (by decide)
  · rw [if_neg e1] at hv2
    by_cases e2 : -x ∈ E.tr
    · exact e2
    · rw [if_neg e2] at hv2; exact absurd hv2 (by decide)
theorem Fine.open_iff (h : Fine E) {x : Int} (hx : InN E.n x) (hv : E.val x = 0) : x ∉ E.tr ∧ -x ∉ E.tr := by
  have hv2 := h.val hx
  rw [hv] at hv2
  by_cases e1 : x ∈ E.tr
  · rw [if_pos e1] at hv2; exact absurd hv2 (by decide)
  · rw [if_neg e1] at hv2
    refine ⟨e1, fun e2 => ?_⟩
    rw [if_pos e2] at hv2; exact absurd hv2 (by decide)
theorem cnt_all {st : List Int} {i : Nat} (h : ∀ a ∈ st, a ≤ (i : Int)) : cnt st i = (st.length : Nat) := by
  unfold cnt
  rw [List.filter_eq_self.2 (fun a ha => decide_eq_true (h a ha))]
theorem Base.put (h : Base E) {l why : Int} (hl : InN E.n l) (hv : E.val l = 0) (hf : Forced E.cls E.tr l why) : Base (E.put l why) := by
  have ho := h.fine.open_iff hl hv
  refine ⟨h.fine.put hl hv why, h.wts, h.inc, fun a ha => ?_, fun i x hi => ?_, ⟨h.brk.1, fun hb => ?_⟩⟩
  · have := h.low a ha
    show 0 ≤ a ∧ a.toNat < (E.tr ++ [l]).length
    rw [List.length_append, List.length_singleton]
    omega
  · have hi2 : (E.tr ++ [l])[i]? = some x := hi
    clear hi
    show ∃ w, (if x = l then some ((E.st.length : Int), why) else E.ms x) = some (cnt E.st i, w) ∧ ((i : Int) ∈ E.st → w = -1) ∧ ((i : Int) ∉ E.st → Forced E.cls ((E.tr ++ [l]).take i) x w)
    rw [List.getElem?_append] at hi2
    by_cases hlt : i < E.tr.length
    · rw [if_pos hlt] at hi2
      have hne : x ≠ l := fun e => ho.1 (e ▸ List.mem_of_getElem? hi2)
      rw [if_neg hne, List.take_append_of_le_length (by omega)]
      exact h.just i x hi2
    · rw [if_neg hlt] at hi2
      have h0 : i - E.tr.length = 0 := by have := (List.getElem?_eq_some_iff.1 hi2).1; simp at this; omega
      rw [h0] at hi2
      simp at hi2
      have e : i = E.tr.length := by omega
      subst e
      rw [if_pos hi2.symm]
      refine ⟨why, ?_, fun hm => ?_, fun _ => ?_⟩
      · rw [cnt_all (fun a ha => by have := h.low a ha; omega)]
      · have := h.low _ hm
        omega
      · rw [List.take_append_of_le_length (Nat.le_refl _), List.take_length, ← hi2]
        exact hf
  · have := h.brk.2 hb
    refine ⟨this.1, fun y hy => ?_⟩
    show -y ∈ E.tr ++ [l]
    exact List.mem_append_left _ (this.2 y hy)
theorem Base.look (h : Base E) {n : Nat} (hn : n < E.cls.length) : Base (E.look n) := by
  have hcn := getD_at (d := ([] : List Int)) hn
  have hin : ∀ x ∈ E.cls.getD n [], InN E.n x := fun x hx => h.fine.cls _ (getD_mem hn) x hx
  unfold Eng.look
  cases hs : scanU E (E.cls.getD n []) 0 with
  | none => exact h
  | some o =>
    obtain ⟨_, i2, i3⟩ := scan_some _ 0 o (fun x hx => (hin x hx).1) hs
    show Base (if o = 0 then { E with br := (n : Int) } else E.put o (n : Int))
    by_cases ho : o = 0
    · rw [if_pos ho]
      refine ⟨h.fine.br _, h.wts, h.inc, h.low, h.just, ⟨fun hb => absurd hb (by show ¬ ((n : Int) < 0); omega), fun _ => ⟨?_, fun y hy => ?_⟩⟩⟩
      · show ((n : Int)).toNat < E.cls.length
        rw [Int.toNat_natCast]; exact hn
      · have hy : y ∈ E.cls.getD ((n : Int)).toNat [] := hy
        rw [Int.toNat_natCast] at hy
        show -y ∈ E.tr
        rcases i2 y hy with hv | e
        · exact h.fine.false_iff (hin y hy) hv
        · exact absurd (e.trans ho) (hin y hy).1
    · rw [if_neg ho]
      obtain ⟨hmo, hvo⟩ := i3.resolve_left ho
      refine h.put (hin o hmo) hvo ⟨by omega, by rw [Int.toNat_natCast]; exact hn, by rw [Int.toNat_natCast]; exact hmo, fun y hy hne => ?_⟩
      rw [Int.toNat_natCast] at hy
      rcases i2 y hy with hv | e
      · exact h.fine.false_iff (hin y hy) hv
      · exact absurd e hne
theorem base_looks : ∀ E n, Base E → E.br < 0 → n < E.cls.length → Base (E.look n) := fun _ _ h _ hn => h.look hn
theorem Base.pushed (h : Base E) {l : Int} (hl : InN E.n l) (hv : E.val l = 0) : Base (pushed0 E l) := by
  have ho := h.fine.open_iff hl hv
  have hf0 : Fine ({ E with st := E.st ++ [(E.tr.length : Int)] } : Eng) := ⟨h.fine.n0, h.fine.cls, h.fine.tr, h.fine.mks, h.fine.nd, h.fine.con, h.fine.wt⟩
  refine ⟨hf0.put (l := l) hl hv (-1), h.wts, ?_, fun a ha => ?_, fun i x hi => ?_, ⟨h.brk.1, fun hb => ?_⟩⟩
  · show (E.st ++ [(E.tr.length : Int)]).Pairwise (· < ·)
    rw [List.pairwise_append]
    exact ⟨h.inc, by simp, fun a ha b hb => by rw [List.mem_singleton.1 hb]; have := h.low a ha; omega⟩
  · have ha : a ∈ E.st ++ [(E.tr.length : Int)] := ha
    show 0 ≤ a ∧ a.toNat < (E.tr ++ [l]).length
    rw [List.length_append, List.length_singleton]
    rcases List.mem_append.1 ha with ha | ha
    · have := h.low a ha; omega
    · rw [List.mem_singleton.1 ha]; omega
  · have hi2 : (E.tr ++ [l])[i]? = some x := hi
    clear hi
    show ∃ w, (if x = l then some (((E.st ++ [(E.tr.length : Int)]).length : Int), (-1 : Int)) else E.ms x) = some (cnt (E.st ++ [(E.tr.length : Int)]) i, w) ∧ ((i : Int) ∈ E.st ++ [(E.tr.length : Int)] → w = -1) ∧ ((i : Int) ∉ E.st ++ [(E.tr.length : Int)] → Forced E.cls ((E.tr ++ [l]).take i) x w)
    rw [List.getElem?_append] at hi2
    by_cases hlt : i < E.tr.length
    · rw [if_pos hlt] at hi2
      have hne : x ≠ l := fun e => ho.1 (e ▸ List.mem_of_getElem? hi2)
      rw [if_neg hne, List.take_append_of_le_length (by omega)]
      obtain ⟨w, w1, w2, w3⟩ := h.just i x hi2
      have hc : cnt (E.st ++ [(E.tr.length : Int)]) i = cnt E.st i := by
        unfold cnt
        rw [List.filter_append, List.filter_cons_of_neg (by rw [decide_eq_true_eq]; omega), List.filter_nil, List.append_nil]
      have hm : (i : Int) ∈ E.st ++ [(E.tr.length : Int)] ↔ (i : Int) ∈ E.st := by
        rw [List.mem_append, List.mem_singleton]
        exact ⟨fun h => h.resolve_right (by omega), .inl⟩
      rw [hc, hm]
      exact ⟨w, w1, w2, w3⟩
    · rw [if_neg hlt] at hi2
      have h0 : i - E.tr.length = 0 := by have := (List.getElem?_eq_some_iff.1 hi2).1; simp at this; omega
      rw [h0] at hi2
      simp at hi2
      have e : i = E.tr.length := by omega
      subst e
      rw [if_pos hi2.symm]
      refine ⟨-1, ?_, fun _ => rfl, fun hm => absurd (by simp) hm⟩
      rw [cnt_all (fun a ha => by
        rcases List.mem_append.1 ha with ha | ha
        · have := h.low a ha; omega
        · rw [List.mem_singleton.1 ha]; omega)]
  · have := h.brk.2 hb
    refine ⟨this.1, fun y hy => ?_⟩
    show -y ∈ E.tr ++ [l]
    exact List.mem_append_left _ (this.2 y hy)
theorem getD_left {α : Type} {l m : List α} {n : Nat} {d : α} (h : n < l.length) : (l ++ m).getD n d = l.getD n d := by
  rw [List.getD_eq_getElem?_getD, List.getD_eq_getElem?_getD, List.getElem?_append_left h]
theorem Forced.more {cls more : List (List Int)} {b : List Int} {x why : Int} (h : Forced cls b x why) : Forced (cls ++ more) b x why := by
  obtain ⟨h1, h2, h3, h4⟩ := h
  refine ⟨h1, by rw [List.length_append]; omega, ?_, ?_⟩
  · rw [getD_left h2]; exact h3
  · rw [getD_left h2]; exact h4
theorem layW_up (n : Int) : ∀ (c : List Int) (E : Eng) (y i : Int), i ∈ E.wt y ∨ y ∈ c ∧ i = n → i ∈ (E.layW n c).wt y
  | [], E, y, i, h => h.elim id (fun h => by cases h.1)
  | x :: c, E, y, i, h => by
    show i ∈ ((E.wput n x).layW n c).wt y
    refine layW_up n c (E.wput n x) y i ?_
    show i ∈ (if y = x then E.wt x ++ [n] else E.wt y) ∨ _
    by_cases e : y = x
    · rw [if_pos e]
      rcases h with h | ⟨_, h⟩
      · exact .inl (List.mem_append_left _ (e ▸ h))
      · exact .inl (by rw [h]; simp)
    · rw [if_neg e]
      rcases h with h | ⟨h, h2⟩
      · exact .inl h
      · rcases List.mem_cons.1 h with h | h
        · exact absurd h e
        · exact .inr ⟨h, h2⟩
theorem Base.laid (h : Base E) {c : List Int} (hc : ∀ x ∈ c, InN E.n x) : Base (E.laid c) := by
  obtain ⟨l1, l2, l3, l4, l5, l6, l7⟩ := E.laid_same c
  refine ⟨h.fine.laid hc, fun j d hj x hx => ?_, by rw [l4]; exact h.inc, by rw [l4, l2]; exact h.low, fun i x hi => ?_, ⟨by rw [l1]; exact h.brk.1, fun hb => ?_⟩⟩
  · rw [l3] at hj
    show (j : Int) ∈ (E.layW (E.cls.length : Int) c).wt x
    refine layW_up _ c E x _ ?_
    rw [List.getElem?_append] at hj
    by_cases hlt : j < E.cls.length
    · rw [if_pos hlt] at hj
      exact .inl (h.wts j d hj x hx)
    · rw [if_neg hlt] at hj
      have h0 : j - E.cls.length = 0 := by have := (List.getElem?_eq_some_iff.1 hj).1; simp at this; omega
      rw [h0] at hj
      simp at hj
      exact .inr ⟨by rw [hj]; exact hx, by omega⟩
  · rw [l2] at hi
    rw [l6, l4, l3, l2]
    obtain ⟨w, w1, w2, w3⟩ := h.just i x hi
    exact ⟨w, w1, w2, fun hm => (w3 hm).more⟩
  · rw [l1] at hb ⊢
    obtain ⟨b1, b2⟩ := h.brk.2 hb
    rw [l3, l2]
    refine ⟨by rw [List.length_append]; omega, ?_⟩
    rw [getD_left b1]; exact b2
theorem Base.popped (h : Base E) {ss : List Int} {a : Int} (hs : E.st = ss ++ [a]) : Base (E.popped a.toNat) := by
  obtain ⟨s1, s2, s3, s4, s5, s6, s7, s8⟩ := E.dels_same (E.tr.drop a.toNat)
  have hst : (E.popped a.toNat).st = ss := by show E.st.dropLast = ss; rw [hs, List.dropLast_concat]
  have hcl : (E.popped a.toNat).cls = E.cls := s1
  have htr : (E.popped a.toNat).tr = E.tr.take a.toNat := rfl
  have hms : ∀ x, (E.popped a.toNat).ms x = if x ∈ E.tr.drop a.toNat then none else E.ms x := s8
  have hlow := h.low a (by rw [hs]; simp)
  have hinc := h.inc
  rw [hs, List.pairwise_append] at hinc
  have hss : ∀ b ∈ ss, 0 ≤ b ∧ b < a := fun b hb => ⟨(h.low b (by rw [hs]; simp [hb])).1, hinc.2.2 b hb a (by simp)⟩
  refine ⟨h.fine.popped _, fun j c hj x hx => ?_, by rw [hst]; exact hinc.1, fun b hb => ?_, fun i x hi => ?_, ⟨fun _ => rfl, fun hb => absurd hb (by show ¬ ((0 : Int) ≤ -1); decide)⟩⟩
  · rw [hcl] at hj
    show (j : Int) ∈ (E.dels (E.tr.drop a.toNat)).wt x
    rw [s7]
    exact h.wts j c hj x hx
  · rw [hst] at hb
    have := hss b hb
    rw [htr, List.length_take]
    omega
  · rw [htr, List.getElem?_take] at hi
    split at hi
    · rename_i hia
      have hnd := h.fine.nd
      rw [← List.take_append_drop a.toNat E.tr, List.nodup_append] at hnd
      have hx : x ∈ E.tr.take a.toNat := List.mem_of_getElem? (by rw [List.getElem?_take, if_pos hia]; exact hi)
      obtain ⟨w, w1, w2, w3⟩ := h.just i x hi
      have hc : cnt E.st i = cnt ss i := by
        unfold cnt
        rw [hs, List.filter_append, List.filter_cons_of_neg (by rw [decide_eq_true_eq]; omega), List.filter_nil, List.append_nil]
      have hm : (i : Int) ∈ E.st ↔ (i : Int) ∈ ss := by
        rw [hs, List.mem_append, List.mem_singleton]
        exact ⟨fun h => h.resolve_right (by omega), .inl⟩
      rw [hms, if_neg (fun hd => hnd.2.2 x hx x hd rfl), hst, hcl, htr, List.take_take, Nat.min_eq_left (by omega), ← hc, ← hm]
      exact ⟨w, w1, w2, w3⟩
    · cases hi
end
theorem base_fresh {n : Int} (h : 0 ≤ n ∧ n ≤ 1024) : Base (Eng.fresh n) := ⟨fresh_fine h, fun j c hj => by simp [Eng.fresh] at hj, by simp [Eng.fresh], fun a ha => by simp [Eng.fresh] at ha, fun i x hi => by simp [Eng.fresh] at hi, ⟨fun _ => rfl, fun hb => absurd hb (by show ¬ ((0 : Int) ≤ -1); decide)⟩⟩
theorem lays_base : ∀ (l : List (List Int)) (E E' : Eng), Eng.lays l E = some E' → Base E → (∀ c ∈ l, (∀ x ∈ c, InN E.n x) ∧ c.length ≤ 64) → Base E'
  | [], E, E', h, b, _ => by
    have h : some E = some E' := h
    injection h with h
    rw [← h]; exact b
  | c :: l, E, E', h, b, hc => by
    obtain ⟨h1, h2⟩ := hc c (by simp)
    have h : ((lit_Clean.f c).bind fun r => if E.ws + r.1.length < 4398046511104 ∧ E.cls.length + 1 < 5864062014805 then Eng.lays l (E.laid r.1) else none) = some E' := h
    rw [lit_Clean_eq c (fun x hx => (h1 x hx).wf b.fine.n0.2) (by omega)] at h
    obtain ⟨r, hr, h⟩ := Option.bind_eq_some_iff.mp h
    injection hr with hr
    rw [← hr] at h
    split at h
    · exact lays_base l _ _ h (b.laid (cleanL_InN h1)) (fun d hd => by rw [(E.laid_same _).2.2.2.2.1]; exact hc d (List.mem_cons_of_mem _ hd))
    · cases h
theorem well_new {k : Nat} {n : Int} {l : List (List Int)} {E : Eng} (hs : setErr n l = 0) (hcr : ∀ r, cnf_Right.f k n l = some r → r.2 = 0) (h : Eng.new k n l = some (E, 0)) : Well E := by
  obtain ⟨s1, s2, s3⟩ := setErr_InN hs
  unfold Eng.new at h
  obtain ⟨r, hr, h⟩ := Option.bind_eq_some_iff.mp h
  rw [if_neg (by rw [hcr r hr]; decide)] at h
  obtain ⟨E0, h0, h⟩ := Option.bind_eq_some_iff.mp h
  obtain ⟨E1, h1, h⟩ := Option.bind_eq_some_iff.mp h
  injection h with h
  injection h with h _
  subst h
  have b0 := lays_base l _ _ h0 (base_fresh s1) s3
  exact ⟨settle_keeps base_looks h1 b0, fun hb => settle_still h1 b0.fine b0.wts hb⟩
theorem pend_pushed {E : Eng} (h : Well E) (hb : E.br < 0) {l : Int} (hl : InN E.n l) (hv : E.val l = 0) : Pend (pushed0 E l) E.tr.length (fun _ => False) := fun j c hj hq => by
  have hj : E.cls[j]? = some c := hj
  have hc : ∀ x ∈ c, InN E.n x := fun x hx => h.fine.cls _ (List.mem_of_getElem? hj) x hx
  have hf0 : Fine ({ E with st := E.st ++ [(E.tr.length : Int)] } : Eng) := ⟨h.fine.n0, h.fine.cls, h.fine.tr, h.fine.mks, h.fine.nd, h.fine.con, h.fine.wt⟩
  have hq0 : Quiet ({ E with st := E.st ++ [(E.tr.length : Int)] } : Eng) c := by
    have h1 := h.still hb c (List.mem_of_getElem? hj)
    unfold Quiet at h1 ⊢
    exact (quiet_congr (E := E) (E' := ({ E with st := E.st ++ [(E.tr.length : Int)] } : Eng)) (fun _ _ => rfl) 0).trans h1
  refine .inl ⟨-l, Classical.byContradiction fun hno => hq (hf0.quiet_put (l := l) hl hv (-1) hc hq0 hno), ?_⟩
  show -(-l) ∈ (E.tr ++ [l]).drop E.tr.length
  rw [Int.neg_neg]
  simp
theorem well_push {k : Nat} {E E' : Eng} {l : Int} (h : Well E) (hl : InN E.n l) (hp : Eng.push k E l = some (E', true)) : Well E' := by
  obtain ⟨p1, p2, p3⟩ := push_inv hp
  have b := h.toBase.pushed hl p2
  exact ⟨follow_keeps base_looks _ _ _ _ p3 b, fun hb => follow_still _ _ _ _ p3 b.fine b.wts (fun _ => pend_pushed h p1 hl p2) hb⟩
theorem well_pop {k : Nat} {E E' : Eng} (h : Well E) (hp : Eng.pop k E = some (E', true)) : Well E' := by
  obtain ⟨ss, a, p1, p2⟩ := pop_inv hp
  have b := h.toBase.popped p1
  exact ⟨settle_keeps base_looks p2 b, fun hb => settle_still p2 b.fine b.wts hb⟩
theorem well_add {k : Nat} {E E' : Eng} {c : List Int} (h : Well E) (hc : ∀ x ∈ c, InN E.n x) (hcl : c.length ≤ 64) (ha : Eng.add k E c = some (E', 0)) : Well E' := by
  obtain ⟨a1, a2⟩ := add_inv (fun x hx => (hc x hx).wf h.fine.n0.2) (by omega) ha
  have b := h.toBase.laid (cleanL_InN hc)
  obtain ⟨l1, l2, l3, l4, l5, l6, l7⟩ := E.laid_same (cleanL c)
  have hn : E.cls.length < (E.laid (cleanL c)).cls.length := by rw [l3, List.length_append, List.length_singleton]; omega
  by_cases hb : E.br < 0
  · have a1 := a1 hb
    have b1 := b.look hn
    obtain ⟨g1, g2⟩ := b.fine.look hn
    refine ⟨follow_keeps base_looks _ _ _ _ a1 b1, fun hb2 => follow_still _ _ _ _ a1 b1.fine b1.wts (fun hb1 => ?_) hb2⟩
    have hp := Pend.look b.fine (m := E.tr.length) (by rw [l2]; exact Nat.le_refl _) (R := fun j => j = E.cls.length) hn (fun j d hj hq => by
      rw [l3, List.getElem?_append] at hj
      by_cases hlt : j < E.cls.length
      · rw [if_pos hlt] at hj
        refine absurd ?_ hq
        have h1 := h.still hb d (List.mem_of_getElem? hj)
        unfold Quiet at h1 ⊢
        exact (quiet_congr (fun x _ => by unfold Eng.val; rw [l6]) 0).trans h1
      · have := (List.getElem?_eq_some_iff.1 (by rw [if_neg hlt] at hj; exact hj)).1
        simp at this
        exact .inr (by omega)) hb1
    intro j d hj hq
    rcases hp j d hj hq with h | ⟨h, hne⟩
    · exact .inl h
    · exact absurd h hne
  · rw [a2 (by omega)]
    exact ⟨b, fun hb2 => by rw [l1] at hb2; exact absurd hb2 hb⟩
def CForced (C : List (List Int)) (before : List Int) (x : Int) : Prop := ∃ c ∈ C, x ∈ c ∧ ∀ y ∈ c, y ≠ x → -y ∈ before
def CChain (C : List (List Int)) (S0 ext : List Int) : Prop := ∀ (i : Nat) (x : Int), ext[i]? = some x → CForced C (S0 ++ ext.take i) x
def CQuiet (T c : List Int) : Prop := (∃ x ∈ c, x ∈ T) ∨ ∃ x y, x ∈ c ∧ y ∈ c ∧ x ≠ y ∧ (x ∉ T ∧ -x ∉ T) ∧ (y ∉ T ∧ -y ∉ T)
def CClosed (C : List (List Int)) (T : List Int) : Prop := ∀ c ∈ C, CQuiet T c
def Cons (T : List Int) : Prop := ∀ x ∈ T, -x ∉ T
section
variable {C : List (List Int)} {S0 S T ext ext' : List Int}
theorem forced_in (hcl : CClosed C T) (hc : Cons T) {x : Int} (hf : CForced C S x) (hs : ∀ y ∈ S, y ∈ T) : x ∈ T := by
  obtain ⟨c, hcC, hx, hy⟩ := hf
  rcases hcl c hcC with ⟨z, hz, hzT⟩ | ⟨u, v, hu, hv, hne, hou, hov⟩
  · by_cases e : z = x
    · rw [← e]; exact hzT
    · exact absurd (hs _ (hy z hz e)) (hc z hzT)
  · by_cases e : u = x
    · exact absurd (hs _ (hy v hv (fun q => hne (by rw [e, q])))) hov.2
    · exact absurd (hs _ (hy u hu e)) hou.2
theorem chain_in (hcl : CClosed C T) (hc : Cons T) (h0 : ∀ x ∈ S0, x ∈ T) (hch : CChain C S0 ext) : ∀ x ∈ ext, x ∈ T := by
  have main : ∀ (i : Nat), ∀ j, j ≤ i → ∀ x, ext[j]? = some x → x ∈ T := by
    intro i
    induction i with
    | zero =>
      intro j hj x hx
      have : j = 0 := by omega
      subst this
      refine forced_in hcl hc (hch 0 x hx) (fun y hy => ?_)
      rw [List.take_zero, List.append_nil] at hy
      exact h0 y hy
    | succ i ih =>
      intro j hj x hx
      refine forced_in hcl hc (hch j x hx) (fun y hy => ?_)
      rcases List.mem_append.1 hy with h | h
      · exact h0 y h
      · obtain ⟨m, hm⟩ := List.mem_iff_getElem?.1 h
        rw [List.getElem?_take] at hm
        split at hm
        · exact ih m (by omega) y hm
        · cases hm
  intro x hx
  obtain ⟨j, hj⟩ := List.mem_iff_getElem?.1 hx
  exact main j j (Nat.le_refl _) x hj
theorem no_broken (hcl : CClosed C T) (hc : Cons T) {c : List Int} (hcC : c ∈ C) (hf : ∀ y ∈ c, -y ∈ S) (hs : ∀ y ∈ S, y ∈ T) : False := by
  rcases hcl c hcC with ⟨z, hz, hzT⟩ | ⟨u, v, hu, hv, hne, hou, hov⟩
  · exact hc z hzT (hs _ (hf z hz))
  · exact hou.2 (hs _ (hf u hu))
structure Gone (C : List (List Int)) (S0 ext : List Int) (b : Bool) : Prop where
  chain : CChain C S0 ext
  cons : Cons (S0 ++ ext)
  broken : b = true → ∃ c ∈ C, ∀ y ∈ c, -y ∈ S0 ++ ext
  closed : b = false → CClosed C (S0 ++ ext)
theorem Gone.sub {S1 : List Int} {b b' : Bool} (h : Gone C S0 ext b) (k : Gone C S1 ext' b') (hs : ∀ x, x ∈ S0 ↔ x ∈ S1) (hb : b' = false) : (∀ x ∈ ext, x ∈ S1 ++ ext') ∧ b = false := by
  have h0 : ∀ x ∈ S0, x ∈ S1 ++ ext' := fun x hx => List.mem_append.2 (.inl ((hs x).1 hx))
  have hin := chain_in (k.closed hb) k.cons h0 h.chain
  refine ⟨hin, ?_⟩
  cases b with
  | false => rfl
  | true =>
    obtain ⟨c, hc, hf⟩ := h.broken rfl
    refine (no_broken (k.closed hb) k.cons hc hf (fun y hy => ?_)).elim
    rcases List.mem_append.1 hy with q | q
    · exact h0 y q
    · exact hin y q
theorem Gone.same {S1 : List Int} {b b' : Bool} (h : Gone C S0 ext b) (k : Gone C S1 ext' b') (hs : ∀ x, x ∈ S0 ↔ x ∈ S1) (hn : (S0 ++ ext).Nodup) (hn' : (S1 ++ ext').Nodup) : b = b' ∧ (b = false → ∀ x, x ∈ ext ↔ x ∈ ext') := by
  have e : b = b' := by
    cases hb : b with
    | false =>
      cases hb' : b' with
      | false => rfl
      | true =>
        have := (k.sub h (fun x => (hs x).symm) hb).2
        rw [hb'] at this; cases this
    | true =>
      cases hb' : b' with
      | true => rfl
      | false =>
        have := (h.sub k hs hb').2
        rw [hb] at this; cases this
  refine ⟨e, fun hb x => ?_⟩
  have h1 := (h.sub k hs (e ▸ hb)).1
  have h2 := (k.sub h (fun x => (hs x).symm) hb).1
  have d1 := (List.nodup_append.1 hn).2.2
  have d2 := (List.nodup_append.1 hn').2.2
  constructor
  · intro hx
    rcases List.mem_append.1 (h1 x hx) with q | q
    · exact absurd rfl (d1 x ((hs x).2 q) x hx)
    · exact q
  · intro hx
    rcases List.mem_append.1 (h2 x hx) with q | q
    · exact absurd rfl (d2 x ((hs x).1 q) x hx)
    · exact q
end
def Neat (E : Eng) : Prop := ∀ c ∈ E.cls, c.Nodup
theorem two_of_filter {P : Int → Bool} {c : List Int} (hc : c.Nodup) (h : 2 ≤ (c.filter P).length) : ∃ x y, x ∈ c ∧ y ∈ c ∧ x ≠ y ∧ P x = true ∧ P y = true := by
  match hf : c.filter P with
  | [] => rw [hf] at h; simp at h
  | [_] => rw [hf] at h; simp at h
  | x :: y :: t =>
    have hn : (c.filter P).Nodup := hc.filter P
    have hx : x ∈ c.filter P := by rw [hf]; simp
    have hy : y ∈ c.filter P := by rw [hf]; simp
    obtain ⟨x1, x2⟩ := List.mem_filter.1 hx
    obtain ⟨y1, y2⟩ := List.mem_filter.1 hy
    refine ⟨x, y, x1, y1, fun e => ?_, x2, y2⟩
    rw [hf] at hn
    exact (List.nodup_cons.1 hn).1 (by rw [e]; simp)
section
variable {E : Eng}
theorem quiet_c (h : Fine E) (hn : Neat E) {c : List Int} (hc : c ∈ E.cls) (hq : Quiet E c) : CQuiet E.tr c := by
  have hin := h.cls c hc
  rcases (quiet_iff (fun x hx => (hin x hx).1)).1 hq with ⟨x, hx, hv⟩ | h2
  · refine .inl ⟨x, hx, ?_⟩
    rw [h.val (hin x hx)] at hv
    by_cases e : x ∈ E.tr
    · exact e
    · rw [if_neg e] at hv
      split at hv <;> exact absurd hv (by decide)
  · obtain ⟨x, y, hx, hy, hne, px, py⟩ := two_of_filter (hn c hc) h2
    exact .inr ⟨x, y, hx, hy, hne, h.open_iff (hin x hx) (of_decide_eq_true px), h.open_iff (hin y hy) (of_decide_eq_true py)⟩
theorem engine_gone (h : Well E) (hn : Neat E) {m : Nat} (hm : ∀ a ∈ E.st, a < (m : Int)) : Gone E.cls (E.tr.take m) (E.tr.drop m) (decide (0 ≤ E.br)) := by
  have hall : E.tr.take m ++ E.tr.drop m = E.tr := List.take_append_drop m E.tr
  refine ⟨fun i x hx => ?_, by rw [hall]; exact h.fine.con, fun hb => ?_, fun hb => ?_⟩
  · rw [List.getElem?_drop] at hx
    obtain ⟨why, _, _, hf⟩ := h.just (m + i) x hx
    obtain ⟨f1, f2, f3, f4⟩ := hf (fun hs => by have := hm _ hs; omega)
    refine ⟨_, getD_mem f2, f3, fun y hy hne => ?_⟩
    have := f4 y hy hne
    rw [← hall] at this
    rcases Nat.lt_or_ge E.tr.length m with hlt | hge
    · rw [List.drop_of_length_le (by omega)] at this ⊢
      rw [List.append_nil] at this
      rw [List.take_nil, List.append_nil]
      exact List.mem_of_mem_take this
    · rw [List.take_append, List.length_take, Nat.min_eq_left hge, Nat.add_sub_cancel_left, List.take_of_length_le (by rw [List.length_take]; omega)] at this
      exact this
  · obtain ⟨b1, b2⟩ := h.brk.2 (of_decide_eq_true hb)
    exact ⟨_, getD_mem b1, fun y hy => by rw [hall]; exact b2 y hy⟩
  · intro c hc
    rw [hall]
    exact quiet_c h.fine hn hc (h.still (by have := of_decide_eq_false hb; omega) c hc)
def LevE (E : Eng) (k : Nat) (x : Int) : Prop := ∃ i, E.tr[i]? = some x ∧ cnt E.st i = (k : Int)
theorem cnt_le (st : List Int) (i : Nat) : cnt st i ≤ (st.length : Int) := by
  unfold cnt
  have := List.length_filter_le (fun a => decide (a ≤ (i : Int))) st
  omega
theorem cnt_nn (st : List Int) (i : Nat) : 0 ≤ cnt st i := by unfold cnt; omega
theorem cnt_snoc (st : List Int) (a : Int) (i : Nat) : cnt (st ++ [a]) i = cnt st i + (if a ≤ (i : Int) then 1 else 0) := by
  unfold cnt
  rw [List.filter_append, List.length_append]
  by_cases h : a ≤ (i : Int)
  · rw [if_pos h, List.filter_cons_of_pos (p := fun a => decide (a ≤ (i : Int))) (decide_eq_true h), List.filter_nil, List.length_singleton]; omega
  · rw [if_neg h, List.filter_cons_of_neg (p := fun a => decide (a ≤ (i : Int))) (by simpa using h), List.filter_nil, List.length_nil]; omega
structure Sim (E : Eng) (N : Int) (L Ls : List (List Int)) (Br : Bool) : Prop where
  well : Well E
  neat : Neat E
  n : N = E.n
  cls : L = E.cls
  len : Ls.length = E.st.length + 1
  low : ∀ (k : Nat) (l : List Int), Ls[k]? = some l → k < E.st.length → ∀ x, x ∈ l ↔ LevE E k x
  br : Br = decide (0 ≤ E.br)
  last : Br = false → ∀ l, Ls[E.st.length]? = some l → ∀ x, x ∈ l ↔ LevE E E.st.length x
  rin : ∀ x ∈ Ls.flatten, InN N x
  rnd : Ls.flatten.Nodup
  rcon : Cons Ls.flatten
structure Goes (L Ls Ls' : List (List Int)) (b : Bool) : Prop where
  out : ∃ ext, Ls' = Ls.dropLast ++ [Ls.getLastD [] ++ ext] ∧ Gone L Ls.flatten ext b ∧ (Ls.flatten ++ ext).Nodup
theorem flat_last {Ls : List (List Int)} (h : Ls ≠ []) (ext : List Int) : (Ls.dropLast ++ [Ls.getLastD [] ++ ext]).flatten = Ls.flatten ++ ext := by
  have e : Ls = Ls.dropLast ++ [Ls.getLastD []] := by
    rw [List.getLastD_eq_getLast?, List.getLast?_eq_some_getLast h]
    exact (List.dropLast_concat_getLast h).symm
  have e2 : Ls.flatten = Ls.dropLast.flatten ++ Ls.getLastD [] := by
    rw [congrArg List.flatten e, List.flatten_append, List.flatten_cons, List.flatten_nil, List.append_nil]
  rw [List.flatten_append, List.flatten_cons, List.flatten_nil, List.append_nil, e2, List.append_assoc]
theorem mem_flat {Ls : List (List Int)} {x : Int} : x ∈ Ls.flatten ↔ ∃ (k : Nat) (l : List Int), Ls[k]? = some l ∧ x ∈ l := by
  rw [List.mem_flatten]
  constructor
  · rintro ⟨l, hl, hx⟩
    obtain ⟨k, hk⟩ := List.mem_iff_getElem?.1 hl
    exact ⟨k, l, hk, hx⟩
  · rintro ⟨k, l, hk, hx⟩
    exact ⟨l, List.mem_of_getElem? hk, hx⟩
theorem sim_on {E : Eng} {m : Nat} {L Ls Ls' : List (List Int)} {b : Bool} {N : Int} (hw : Well E) (hn : Neat E) (hN : N = E.n) (hL : L = E.cls) (hlen : Ls.length = E.st.length + 1) (hm : ∀ a ∈ E.st, a < (m : Int))
    (hlev : ∀ (k : Nat) (l : List Int), Ls[k]? = some l → ∀ x, x ∈ l ↔ ∃ i, i < m ∧ E.tr[i]? = some x ∧ cnt E.st i = (k : Int)) (hin : ∀ x ∈ Ls'.flatten, InN N x) (hg : Goes L Ls Ls' b) : Sim E N L Ls' b := by
  obtain ⟨ext, he, hgone, hnd⟩ := hg.out
  have hne : Ls ≠ [] := fun e => by rw [e] at hlen; simp at hlen
  have hge := engine_gone hw hn hm
  rw [← hL] at hge
  have hbase : ∀ x, x ∈ Ls.flatten ↔ x ∈ E.tr.take m := by
    intro x
    rw [mem_flat]
    constructor
    · rintro ⟨k, l, hk, hx⟩
      obtain ⟨i, hi, hx, _⟩ := (hlev k l hk x).1 hx
      exact List.mem_iff_getElem?.2 ⟨i, by rw [List.getElem?_take, if_pos hi]; exact hx⟩
    · intro hx
      obtain ⟨i, hi⟩ := List.mem_iff_getElem?.1 hx
      rw [List.getElem?_take] at hi
      split at hi
      case isFalse => cases hi
      rename_i him
      have h1 := cnt_le E.st i
      have h2 := cnt_nn E.st i
      have hk : (cnt E.st i).toNat < Ls.length := by omega
      refine ⟨(cnt E.st i).toNat, _, List.getElem?_eq_getElem hk, (hlev _ _ (List.getElem?_eq_getElem hk) x).2 ⟨i, him, hi, by omega⟩⟩
  have hnd2 : (E.tr.take m ++ E.tr.drop m).Nodup := by rw [List.take_append_drop]; exact hw.fine.nd
  obtain ⟨s1, s2⟩ := hgone.same hge hbase hnd hnd2
  have hcnt : ∀ i, m ≤ i → cnt E.st i = (E.st.length : Int) := fun i hi => cnt_all (fun a ha => by have := hm a ha; omega)
  have hflat : Ls'.flatten = Ls.flatten ++ ext := by rw [he]; exact flat_last hne ext
  have hdl : Ls.dropLast.length = E.st.length := by rw [List.length_dropLast, hlen]; omega
  have hlastget : Ls[E.st.length]? = some (Ls.getLastD []) := by
    rw [List.getLastD_eq_getLast?, List.getLast?_eq_getElem?, hlen, Nat.add_sub_cancel, List.getElem?_eq_getElem (by omega)]
    rfl
  refine ⟨hw, hn, hN, hL, by rw [he, List.length_append, hdl, List.length_singleton], fun k l hk hlt x => ?_, s1, fun hb l hl x => ?_, hin, by rw [hflat]; exact hnd, by rw [hflat]; exact hgone.cons⟩
  · rw [he, List.getElem?_append, if_pos (by rw [hdl]; exact hlt), List.getElem?_dropLast, if_pos (by omega)] at hk
    rw [hlev k l hk x]
    constructor
    · rintro ⟨i, _, h1, h2⟩; exact ⟨i, h1, h2⟩
    · rintro ⟨i, h1, h2⟩
      refine ⟨i, ?_, h1, h2⟩
      refine Decidable.byContradiction fun hge => ?_
      have := hcnt i (by omega)
      omega
  · rw [he, List.getElem?_append, if_neg (by rw [hdl]; omega), hdl, Nat.sub_self] at hl
    have hl : Ls.getLastD [] ++ ext = l := by simpa using hl
    rw [← hl, List.mem_append, hlev _ _ hlastget x]
    constructor
    · rintro (⟨i, _, h1, h2⟩ | hx)
      · exact ⟨i, h1, h2⟩
      · have hx := (s2 hb x).1 hx
        obtain ⟨i, hi⟩ := List.mem_iff_getElem?.1 hx
        rw [List.getElem?_drop] at hi
        exact ⟨m + i, hi, hcnt _ (by omega)⟩
    · rintro ⟨i, h1, h2⟩
      by_cases hi : i < m
      · exact .inl ⟨i, hi, h1, h2⟩
      · refine .inr ((s2 hb x).2 (List.mem_iff_getElem?.2 ⟨i - m, ?_⟩))
        rw [List.getElem?_drop, show m + (i - m) = i by omega]
        exact h1
end
section
variable {E E' : Eng}
theorem grew_looks (E0 : Eng) : ∀ E n, (Fine E ∧ Grew E0 E) → E.br < 0 → n < E.cls.length → (Fine (E.look n) ∧ Grew E0 (E.look n)) := fun E n h _ hn => by
  obtain ⟨f, g⟩ := h.1.look hn
  exact ⟨f, h.2.trans g⟩
theorem follow_grew {k i : Nat} (h : Eng.follow k E i = some E') (f : Fine E) : Grew E E' := (follow_keeps (grew_looks E) k E E' i h ⟨f, Grew.refl E⟩).2
theorem settle_grew {k : Nat} (h : Eng.settle k E = some E') (f : Fine E) : Grew E E' := (settle_keeps (grew_looks E) h ⟨f, Grew.refl E⟩).2
theorem get_more {l more : List Int} {i : Nat} {x : Int} (hi : i < l.length) : (l ++ more)[i]? = some x ↔ l[i]? = some x := by
  rw [List.getElem?_append, if_pos hi]
variable {N : Int} {L Ls Ls' : List (List Int)} {Br b : Bool}
theorem Sim.lev (S : Sim E N L Ls Br) (hb : Br = false) {k : Nat} {l : List Int} (hk : Ls[k]? = some l) (x : Int) : x ∈ l ↔ LevE E k x := by
  have hlt := (List.getElem?_eq_some_iff.1 hk).1
  have := S.len
  by_cases e : k < E.st.length
  · exact S.low k l hk e x
  · have e2 : k = E.st.length := by omega
    subst e2
    exact S.last hb l hk x
theorem sim_push {k : Nat} {l : Int} (S : Sim E N L Ls Br) (hl : InN E.n l) (hp : Eng.push k E l = some (E', true)) (hin : ∀ x ∈ Ls'.flatten, InN N x) (hg : Goes L (Ls ++ [[l]]) Ls' b) : Sim E' N L Ls' b := by
  obtain ⟨p1, p2, p3⟩ := push_inv hp
  have hw := well_push S.well hl hp
  have g := follow_grew p3 (S.well.toBase.pushed hl p2).fine
  obtain ⟨more, hmore⟩ := g.tr
  have htr : E'.tr = (E.tr ++ [l]) ++ more := hmore
  have hst : E'.st = E.st ++ [(E.tr.length : Int)] := g.st
  have hcl : E'.cls = E.cls := g.cls
  have hbr : Br = false := by rw [S.br]; exact decide_eq_false (by omega)
  refine sim_on (m := E.tr.length + 1) hw (fun c hc => S.neat c (hcl ▸ hc)) (S.n.trans g.n.symm) (S.cls.trans hcl.symm) (by rw [hst, List.length_append, List.length_append, S.len]; rfl) (fun a ha => ?_) (fun j c hj x => ?_) hin hg
  · rw [hst] at ha
    rcases List.mem_append.1 ha with h | h
    · have := S.well.low a h; omega
    · rw [List.mem_singleton.1 h]; omega
  · have hlow : ∀ a ∈ E.st, a < (E.tr.length : Int) := fun a ha => by have := S.well.low a ha; omega
    rw [List.getElem?_append] at hj
    by_cases hlt : j < Ls.length
    · rw [if_pos hlt] at hj
      rw [S.lev hbr hj x]
      have hjl := S.len
      constructor
      · rintro ⟨i, h1, h2⟩
        have hi := (List.getElem?_eq_some_iff.1 h1).1
        refine ⟨i, by omega, by rw [htr, List.append_assoc, get_more hi]; exact h1, ?_⟩
        rw [hst, cnt_snoc, if_neg (by omega), h2]; omega
      · rintro ⟨i, hi, h1, h2⟩
        rw [hst, cnt_snoc] at h2
        by_cases e : i < E.tr.length
        · rw [if_neg (by omega)] at h2
          rw [htr, List.append_assoc, get_more e] at h1
          exact ⟨i, h1, by omega⟩
        · have := cnt_all (st := E.st) (i := i) (fun a ha => by have := hlow a ha; omega)
          rw [if_pos (by omega), this] at h2
          omega
    · rw [if_neg hlt] at hj
      have hj0 : j - Ls.length = 0 := by
        have := (List.getElem?_eq_some_iff.1 hj).1
        simp at this; omega
      have hjl := S.len
      rw [hj0] at hj
      have hc : [l] = c := by simpa using hj
      rw [← hc, List.mem_singleton]
      have hlast : ((E.tr ++ [l]) ++ more)[E.tr.length]? = some l := by rw [get_more (by simp)]; simp
      constructor
      · intro e
        refine ⟨E.tr.length, by omega, by rw [htr, e]; exact hlast, ?_⟩
        have := cnt_all (st := E.st) (i := E.tr.length) (fun a ha => by have := hlow a ha; omega)
        rw [hst, cnt_snoc, if_pos (by omega), this]; omega
      · rintro ⟨i, hi, h1, h2⟩
        rw [hst, cnt_snoc] at h2
        by_cases e : i < E.tr.length
        · rw [if_neg (by omega)] at h2
          have := cnt_le E.st i
          omega
        · have hie : i = E.tr.length := by omega
          rw [hie, htr, hlast] at h1
          exact (Option.some.inj h1).symm
theorem sim_pop {k : Nat} (S : Sim E N L Ls Br) (hp : Eng.pop k E = some (E', true)) (hin : ∀ x ∈ Ls'.flatten, InN N x) (hg : Goes L Ls.dropLast Ls' b) : Sim E' N L Ls' b := by
  have hw := well_pop S.well hp
  obtain ⟨ss, a, p1, p2⟩ := pop_inv hp
  have bp := S.well.toBase.popped p1
  have g := settle_grew p2 bp.fine
  obtain ⟨more, hmore⟩ := g.tr
  have hlow := S.well.low a (by rw [p1]; simp)
  obtain ⟨s1, s2, s3, s4, s5, s6, s7, s8⟩ := E.dels_same (E.tr.drop a.toNat)
  have htr : E'.tr = E.tr.take a.toNat ++ more := hmore
  have hst : E'.st = ss := by rw [g.st]; show E.st.dropLast = ss; rw [p1, List.dropLast_concat]
  have hcl : E'.cls = E.cls := g.cls.trans s1
  have hnn : E'.n = E.n := by rw [g.n]; exact (show (E.popped a.toNat).n = (E.dels (E.tr.drop a.toNat)).n from rfl).trans (by first | exact s2 | exact s3 | exact s4 | exact s5 | exact s6)
  have hinc := S.well.inc
  rw [p1, List.pairwise_append] at hinc
  have hss : ∀ c ∈ ss, c < a := fun c hc => hinc.2.2 c hc a (by simp)
  have hlen : Ls.length = ss.length + 2 := by have := S.len; rw [p1, List.length_append, List.length_singleton] at this; omega
  have htl : (E.tr.take a.toNat).length = a.toNat := by rw [List.length_take]; omega
  refine sim_on (m := a.toNat) hw (fun c hc => S.neat c (hcl ▸ hc)) (S.n.trans hnn.symm) (S.cls.trans hcl.symm) (by rw [List.length_dropLast, hst, hlen]; omega) (fun c hc => ?_) (fun j c hj x => ?_) hin hg
  · rw [hst] at hc
    have := hss c hc; omega
  · rw [List.getElem?_dropLast] at hj
    split at hj
    case isFalse => cases hj
    rename_i hjl
    rw [S.low j c hj (by rw [p1, List.length_append, List.length_singleton]; omega) x]
    constructor
    · rintro ⟨i, h1, h2⟩
      have hia : i < a.toNat := by
        refine Decidable.byContradiction fun hge => ?_
        rw [p1, cnt_snoc, if_pos (by omega), cnt_all (fun c hc => by have := hss c hc; omega)] at h2
        omega
      refine ⟨i, hia, by rw [htr, get_more (by rw [htl]; exact hia), List.getElem?_take, if_pos hia]; exact h1, ?_⟩
      rw [p1, cnt_snoc, if_neg (by omega)] at h2
      rw [hst]; omega
    · rintro ⟨i, hia, h1, h2⟩
      rw [htr, get_more (by rw [htl]; exact hia), List.getElem?_take, if_pos hia] at h1
      refine ⟨i, h1, ?_⟩
      rw [hst] at h2
      rw [p1, cnt_snoc, if_neg (by omega)]; omega
theorem neat_laid {c : List Int} (h : Neat E) : ∀ d ∈ (E.laid (cleanL c)).cls, d.Nodup := fun d hd => by
  rw [(E.laid_same _).2.2.1] at hd
  rcases List.mem_append.1 hd with h1 | h1
  · exact h d h1
  · rw [List.mem_singleton.1 h1]; exact cleanL_nodup c
theorem sim_add {k : Nat} {c : List Int} (S : Sim E N L Ls Br) (hc : ∀ x ∈ c, InN E.n x) (hcl : c.length ≤ 64) (ha : Eng.add k E c = some (E', 0)) :
    (Br = true → Sim E' N (L ++ [cleanL c]) Ls true) ∧ (Br = false → (∀ x ∈ Ls'.flatten, InN N x) → Goes (L ++ [cleanL c]) Ls Ls' b → Sim E' N (L ++ [cleanL c]) Ls' b) := by
  have hw := well_add S.well hc hcl ha
  obtain ⟨a1, a2⟩ := add_inv (fun x hx => (hc x hx).wf S.well.fine.n0.2) (by omega) ha
  obtain ⟨l1, l2, l3, l4, l5, l6, l7⟩ := E.laid_same (cleanL c)
  have hbase := S.well.toBase.laid (cleanL_InN hc)
  have hbr := S.br
  refine ⟨fun hb => ?_, fun hb hin hg => ?_⟩
  · have hge : E.br ≥ 0 := by rw [hb] at hbr; exact of_decide_eq_true hbr.symm
    have e := a2 hge
    subst e
    have hlv : ∀ j x, LevE (E.laid (cleanL c)) j x ↔ LevE E j x := fun j x => by unfold LevE; rw [l2, l4]
    exact ⟨hw, neat_laid S.neat, S.n.trans l5.symm, by rw [l3, S.cls], by rw [l4]; exact S.len, fun j d hj hlt x => by rw [hlv]; rw [l4] at hlt; exact S.low j d hj hlt x, by rw [l1]; exact (decide_eq_true hge).symm, (fun h => by cases h), S.rin, S.rnd, S.rcon⟩
  · have hlt : E.br < 0 := by rw [hb] at hbr; have := of_decide_eq_false hbr.symm; omega
    have e := a1 hlt
    have hn : E.cls.length < (E.laid (cleanL c)).cls.length := by rw [l3, List.length_append, List.length_singleton]; omega
    obtain ⟨f1, g1⟩ := hbase.fine.look hn
    have g := g1.trans (follow_grew e f1)
    obtain ⟨more, hmore⟩ := g.tr
    have htr : E'.tr = E.tr ++ more := by rw [hmore, l2]
    have hst : E'.st = E.st := g.st.trans l4
    have hcls : E'.cls = (E.laid (cleanL c)).cls := g.cls
    refine sim_on (m := E.tr.length) hw (fun d hd => neat_laid S.neat d (hcls ▸ hd)) (S.n.trans (g.n.trans l5).symm) (by rw [hcls, l3, S.cls]) (by rw [hst]; exact S.len) (fun a ha => by rw [hst] at ha; have := S.well.low a ha; omega) (fun j d hj x => ?_) hin hg
    rw [S.lev hb hj x]
    constructor
    · rintro ⟨i, h1, h2⟩
      have hi := (List.getElem?_eq_some_iff.1 h1).1
      exact ⟨i, hi, by rw [htr, get_more hi]; exact h1, by rw [hst]; exact h2⟩
    · rintro ⟨i, hi, h1, h2⟩
      rw [htr, get_more hi] at h1
      rw [hst] at h2
      exact ⟨i, h1, h2⟩
theorem sim_new (hw : Well E) (hn : Neat E) (hN : N = E.n) (hL : L = E.cls) (hst : E.st = []) (hin : ∀ x ∈ Ls'.flatten, InN N x) (hg : Goes L [[]] Ls' b) : Sim E N L Ls' b := by
  refine sim_on (m := 0) hw hn hN hL (by rw [hst]; rfl) (fun a ha => by rw [hst] at ha; cases ha) (fun j d hj x => ?_) hin hg
  constructor
  · intro hx
    have hj0 : j = 0 := by
      have := (List.getElem?_eq_some_iff.1 hj).1
      simp at this; omega
    subst hj0
    have : [] = d := by simpa using hj
    rw [← this] at hx; cases hx
  · rintro ⟨i, hi, _⟩; omega
end
theorem r17_is_eq (a : Int) : sequiturref17_is.f a = some (isL a) := by
  unfold sequiturref17_is.f isL
  by_cases h : a = 0
  · rw [if_pos h, decide_eq_false (by simp [h])]
  · rw [if_neg h]
    by_cases h2 : a = -9223372036854775808
    · rw [h2]; rfl
    · rw [decide_eq_true ⟨h, h2⟩]
      simpa using h2
theorem r17_Of_eq {a : Int} (h : I64 a) (hm : isL a = true) : sequiturref17_Of.f a = some ((a.natAbs : Nat) : Int) := by
  have := h.lo; have := h.hi
  have hm := (of_decide_eq_true hm).2
  unfold sequiturref17_Of.f wrap64
  split <;> (congr 1; omega)
theorem r17_Right_loop (c : List Int) (n : Int) (hc : ∀ l ∈ c, I64 l) (hn : I64 n) (hs : c.length < 4611686018427387904) : ∀ (m i : Nat), m + i = c.length →
    Tells (fun k => sequiturref17_Right.l0 k c n (i : Int)) (if (c.drop i).any (badLit n) then 1 else 0)
  | 0, i, h => by
    refine Tells.succ (fun k => by rw [sequiturref17_Right.l0]) (Tells.neg (by omega) ?_)
    rw [List.drop_of_length_le (by omega)]; exact Tells.const _
  | m + 1, i, h => by
    have hi : i < c.length := by omega
    have hl := hc _ (List.getElem_mem hi); have h1 := hl.lo; have h2 := hl.hi; have := hn.lo; have := hn.hi
    refine Tells.succ (fun k => by rw [sequiturref17_Right.l0]) (Tells.pos (by omega) (Tells.pos (by omega) ?_))
    rw [rd_at _ _ hi, w64s hi hs, List.drop_eq_getElem_cons hi, List.any_cons, r17_is_eq]
    refine Tells.bind (Tells.const _) ?_
    by_cases hb : isL c[i] = true
    · have hb' := of_decide_eq_true hb
      refine Tells.pos hb ?_
      rw [r17_Of_eq hl hb]
      refine Tells.bind (Tells.const _) ?_
      by_cases hv : ((c[i].natAbs : Nat) : Int) > n
      · have e : badLit n c[i] = true := decide_eq_true (by omega)
        rw [e, Bool.true_or, if_pos rfl]
        exact Tells.pos hv (Tells.const _)
      · have e : badLit n c[i] = false := decide_eq_false (by omega)
        rw [e, Bool.false_or]
        exact Tells.neg hv (r17_Right_loop c n hc hn hs m (i + 1) (by omega))
    · have hb' : ¬ (c[i] ≠ 0 ∧ c[i] ≠ -9223372036854775808) := fun h => hb (decide_eq_true h)
      have e : badLit n c[i] = true := decide_eq_true (by omega)
      rw [e, Bool.true_or, if_pos rfl]
      exact Tells.neg hb (Tells.const _)
theorem r17_Right_tells (c : List Int) (n : Int) (hc : ∀ l ∈ c, I64 l) (hn : I64 n) (hs : c.length < 4611686018427387904) : Tells (fun k => sequiturref17_Right.f k c n) (clauseErr c n) := by
  unfold sequiturref17_Right.f clauseErr
  by_cases h : c.length > 64
  · rw [if_pos h]; exact Tells.pos (by omega) (Tells.const _)
  · rw [if_neg h]; exact Tells.neg (by omega) (r17_Right_loop c n hc hn hs c.length 0 rfl)
theorem r17_Has_loop (c : List Int) (x : Int) (hs : c.length < 4611686018427387904) : ∀ (m i : Nat), m + i = c.length →
    Tells (fun k => sequiturref17_Has.l0 k c x (i : Int)) (hasL (c.drop i) x)
  | 0, i, h => by
    refine Tells.succ (fun k => by rw [sequiturref17_Has.l0]) (Tells.neg (by omega) ?_)
    rw [List.drop_of_length_le (by omega), show hasL [] x = false by unfold hasL; simp]; exact Tells.const _
  | m + 1, i, h => by
    have hi : i < c.length := by omega
    have ih := r17_Has_loop c x hs m (i + 1) (by omega)
    refine Tells.succ (fun k => by rw [sequiturref17_Has.l0]) (Tells.pos (by omega) ?_)
    rw [rd_at _ _ hi, w64s hi hs, List.drop_eq_getElem_cons hi, r17_is_eq]
    refine Tells.bind (Tells.const _) ?_
    by_cases hx : isL x = true
    · refine Tells.pos hx (Tells.pos (by omega) ?_)
      by_cases he : c[i] = x
      · refine Tells.pos he ?_
        rw [show hasL (c[i] :: c.drop (i + 1)) x = true from hasL_iff.2 ⟨hx, by simp [he]⟩]
        exact Tells.const _
      · refine Tells.neg he ?_
        rw [show hasL (c[i] :: c.drop (i + 1)) x = hasL (c.drop (i + 1)) x by unfold hasL; rw [List.any_cons, beq_eq_false_iff_ne.2 he, Bool.false_or]]
        exact ih
    · refine Tells.neg hx ?_
      rw [show hasL (c[i] :: c.drop (i + 1)) x = hasL (c.drop (i + 1)) x by unfold hasL; rw [Bool.eq_false_iff.2 hx]; rfl]
      exact ih
theorem r17_Has_tells (c : List Int) (x : Int) (hs : c.length < 4611686018427387904) : Tells (fun k => sequiturref17_Has.f k c x) (hasL c x) := r17_Has_loop c x hs c.length 0 rfl
theorem r17_ahead_eq {a b : Int} (ha : I64 a) (hb : I64 b) (la : isL a = true) (lb : isL b = true) : sequiturref17_ahead.f a b = some (aheadL a b) := by
  unfold sequiturref17_ahead.f aheadL
  rw [r17_Of_eq ha la, r17_Of_eq hb lb]
  show (if ((a.natAbs : Nat) : Int) < ((b.natAbs : Nat) : Int) then some true else if ((a.natAbs : Nat) : Int) = ((b.natAbs : Nat) : Int) then some (decide (a < b)) else some false) = _
  by_cases h : a.natAbs < b.natAbs
  · rw [if_pos (by omega), decide_eq_true h, Bool.true_or]
  · rw [if_neg (by omega), decide_eq_false h, Bool.false_or]
    by_cases h2 : a.natAbs = b.natAbs
    · rw [if_pos (by omega), decide_eq_true h2, Bool.true_and]
    · rw [if_neg (by omega), decide_eq_false h2, Bool.false_and]
theorem r17_opp_loop (out : List Int) (ho : ∀ x ∈ out, I64 x ∧ isL x = true) (hs : out.length < 4611686018427387904) : ∀ (m i : Nat), m + i = out.length →
    Tells (fun k => sequiturref17_Clean.l2 k out (i : Int)) (out, !((out.drop i).any fun x => hasL out (-x)))
  | 0, i, h => by
    refine Tells.succ (fun k => by rw [sequiturref17_Clean.l2]) (Tells.neg (by omega) ?_)
    rw [List.drop_of_length_le (by omega)]; exact Tells.const _
  | m + 1, i, h => by
    have hi : i < out.length := by omega
    obtain ⟨h1, h2⟩ := ho _ (List.getElem_mem hi)
    have h3 := of_decide_eq_true h2
    have := h1.lo; have := h1.hi
    have hw : wrap64 (-out[i]) = -out[i] := w64 (by omega) (by omega)
    refine Tells.succ (fun k => by rw [sequiturref17_Clean.l2]) (Tells.pos (by omega) (Tells.pos (by omega) ?_))
    rw [rd_at _ _ hi, hw, w64s hi hs, List.drop_eq_getElem_cons hi, List.any_cons]
    refine Tells.bind (r17_Has_tells out (-out[i]) hs) ?_
    by_cases hh : hasL out (-out[i]) = true
    · rw [hh]; exact Tells.pos rfl (Tells.const _)
    · rw [Bool.eq_false_iff.2 hh, Bool.false_or]
      exact Tells.neg (by decide) (r17_opp_loop out ho hs m (i + 1) (by omega))
theorem r17_at (c out : List Int) (i : Nat) (hi : i < c.length) (hc : ∀ x ∈ c, I64 x) (ho : ∀ x ∈ out, I64 x ∧ isL x = true) (hl : isL c[i] = true) (hs : c.length < 17592186044000) (hos : out.length ≤ i) {v : List Int × Bool}
    (K : Tells (fun k => sequiturref17_Clean.l0 k c (insL c[i] out) ((i + 1 : Nat) : Int)) v) : ∀ (suf pre : List Int), out = pre ++ suf → (∀ y ∈ pre, aheadL y c[i] = true) →
      Tells (fun k => sequiturref17_Clean.l1 k c out (i : Int) ((pre.length : Nat) : Int)) v
  | [], pre, e, ha => by
    have e1 : out = pre := by rw [e, List.append_nil]
    have hins : insL c[i] out = (([] ++ pre) ++ [c[i]]) ++ [] := by
      unfold insL
      rw [e, List.takeWhile_append_of_pos ha, List.dropWhile_append_of_pos ha]
      simp
    refine Tells.succ (fun k => by rw [sequiturref17_Clean.l1]) (Tells.neg (by rw [e1]; omega) (Tells.pos (by omega) (Tells.pos (by rw [e1]; omega) ?_)))
    rw [Int.toNat_natCast, e1, List.take_length, List.drop_length, rd_at _ _ hi, w64s hi (by omega)]
    have hl1 : pre.length ≤ i := by rw [← e1]; exact hos
    refine Tells.bind (Tells.const _) (Tells.pos (by simp; omega) (Tells.bind (Tells.const _) (Tells.pos (by omega) (Tells.pos (by omega) (Tells.pos (by simp; omega) (Tells.bind (Tells.const _) (Tells.bind (Tells.const _) (Tells.pos (by simp; omega) ?_))))))))
    rw [hins] at K
    exact K
  | s :: suf, pre, e, ha => by
    have hlen : pre.length < out.length := by rw [e]; simp
    have hmem : s ∈ out := by rw [e]; simp
    have hget : rd out ((pre.length : Nat) : Int) = s := by rw [rd_at _ _ hlen]; simp [e]
    refine Tells.succ (fun k => by rw [sequiturref17_Clean.l1]) (Tells.pos (by omega) (Tells.pos (by omega) (Tells.pos (by omega) (Tells.pos (by omega) ?_))))
    rw [hget, rd_at _ _ hi, r17_ahead_eq (ho s hmem).1 (hc _ (List.getElem_mem hi)) (ho s hmem).2 hl]
    refine Tells.bind (Tells.const _) ?_
    by_cases h : aheadL s c[i] = true
    · refine Tells.pos h ?_
      have ih := r17_at c out i hi hc ho hl hs hos K suf (pre ++ [s]) (by rw [e]; simp) (fun y hy => by
        rcases List.mem_append.1 hy with hy | hy
        · exact ha y hy
        · rw [List.mem_singleton.1 hy]; exact h)
      rw [w64s (by omega : pre.length < c.length) (by omega)]
      rw [List.length_append, List.length_singleton] at ih
      exact ih
    · refine Tells.neg h (Tells.pos (by omega) ?_)
      have hins : insL c[i] out = (([] ++ pre) ++ [c[i]]) ++ (s :: suf) := by
        unfold insL
        rw [e, List.takeWhile_append_of_pos ha, List.dropWhile_append_of_pos ha, List.takeWhile_cons_of_neg (p := fun y => aheadL y c[i]) h, List.dropWhile_cons_of_neg (p := fun y => aheadL y c[i]) h]
        simp
      have hl2 : pre.length + (s :: suf).length ≤ i := by rw [← List.length_append, ← e]; exact hos
      rw [Int.toNat_natCast, show out.take pre.length = pre by rw [e]; exact List.take_left' rfl, show out.drop pre.length = s :: suf by rw [e]; exact List.drop_left' rfl, w64s hi (by omega)]
      refine Tells.bind (Tells.const _) (Tells.pos (by simp; omega) (Tells.bind (Tells.const _) (Tells.pos (by simp; omega) (Tells.bind (Tells.const _) (Tells.bind (Tells.const _) (Tells.pos (by simp at hl2 ⊢; omega) ?_))))))
      rw [hins] at K
      exact K
theorem r17_Clean_loop (c : List Int) (hc : ∀ x ∈ c, I64 x) (hs : c.length < 17592186044000) : ∀ (m i : Nat) (out : List Int), m + i = c.length → out.length ≤ i → (∀ x ∈ out, I64 x ∧ isL x = true) →
    Tells (fun k => sequiturref17_Clean.l0 k c out (i : Int)) ((c.drop i).foldl cleanStep out, !oppL ((c.drop i).foldl cleanStep out))
  | 0, i, out, h, hos, ho => by
    refine Tells.succ (fun k => by rw [sequiturref17_Clean.l0]) (Tells.neg (by omega) ?_)
    rw [List.drop_of_length_le (by omega)]
    exact r17_opp_loop out ho (by omega) out.length 0 rfl
  | m + 1, i, out, h, hos, ho => by
    have hi : i < c.length := by omega
    have hx := hc _ (List.getElem_mem hi)
    have hstep : ∀ x ∈ cleanStep out c[i], I64 x ∧ isL x = true := fun x hm => by
      rcases cleanStep_mem.1 hm with hm | ⟨rfl, hl⟩
      · exact ho x hm
      · exact ⟨hx, hl⟩
    have ih := r17_Clean_loop c hc hs m (i + 1) (cleanStep out c[i]) (by omega) (by have := cleanStep_length out c[i]; omega) hstep
    rw [List.drop_eq_getElem_cons hi, List.foldl_cons]
    refine Tells.succ (fun k => by rw [sequiturref17_Clean.l0]) (Tells.pos (by omega) (Tells.pos (by omega) ?_))
    rw [rd_at _ _ hi, r17_is_eq]
    refine Tells.bind (Tells.const _) ?_
    have hskip : cleanStep out c[i] = out → Tells (fun k => sequiturref17_Clean.j1 k c out (i : Int) true) ((c.drop (i + 1)).foldl cleanStep (cleanStep out c[i]), !oppL ((c.drop (i + 1)).foldl cleanStep (cleanStep out c[i]))) := fun e => by
      refine Tells.succ (fun k => by rw [sequiturref17_Clean.j1]) (Tells.pos rfl ?_)
      rw [w64s hi (by omega)]
      rw [e] at ih ⊢
      exact ih
    by_cases hl : isL c[i] = true
    · refine Tells.pos hl (Tells.bind (r17_Has_tells out c[i] (by omega)) ?_)
      by_cases hh : hasL out c[i] = true
      · rw [hh]
        exact hskip (by unfold cleanStep; rw [hh]; simp)
      · rw [Bool.eq_false_iff.2 hh]
        refine Tells.succ (fun k => by rw [sequiturref17_Clean.j1]) (Tells.neg (by decide) ?_)
        have e : cleanStep out c[i] = insL c[i] out := by unfold cleanStep; rw [hl, Bool.eq_false_iff.2 hh]; rfl
        rw [e] at ih ⊢
        exact r17_at c out i hi hc ho hl hs hos ih out [] rfl (fun y hy => by cases hy)
    · refine Tells.neg hl (hskip ?_)
      unfold cleanStep
      rw [Bool.eq_false_iff.2 hl]; rfl
theorem r17_Clean_tells (c : List Int) (hc : ∀ x ∈ c, I64 x) (hs : c.length < 17592186044000) : Tells (fun k => sequiturref17_Clean.f k c) (cleanL c, !oppL (cleanL c)) :=
  r17_Clean_loop c hc hs c.length 0 [] rfl (Nat.le_refl _) (fun x hx => by cases hx)
def valM (S : List Int) (l : Int) : Int := if l ∈ S then 1 else if -l ∈ S then -1 else 0
theorem hasL_in {n : Int} (hn : n ≤ 1024) {S : List Int} {l : Int} (hl : InN n l) : hasL S l = true ↔ l ∈ S := by
  rw [hasL_iff]
  exact ⟨fun h => h.2, fun h => ⟨hl.isL hn, h⟩⟩
theorem InN.i64 {n x : Int} (h : InN n x) (hn : n ≤ 1024) : I64 x := h.wf hn
theorem valueM_loop {n : Int} (hn : n ≤ 1024) (N : Int) (cls : List (List Int)) (b : Bool) {l : Int} (hl : InN n l) (Ls : List (List Int)) (hls : Ls.length < 4611686018427387904) (hs : ∀ S ∈ Ls, S.length < 4611686018427387904) (hc : Cons Ls.flatten) : ∀ (m i : Nat), m + i = Ls.length →
    Tells (fun k => sequiturref20_Value.l0 k l (i : Int) N cls Ls b) (valM (Ls.drop i).flatten l)
  | 0, i, h => by
    rw [List.drop_of_length_le (by omega)]
    refine Tells.succ (fun k => by rw [sequiturref20_Value.l0]) (Tells.neg (by omega) ?_)
    exact Tells.const _
  | m + 1, i, h => by
    have hi : i < Ls.length := by omega
    have ih := valueM_loop hn N cls b hl Ls hls hs hc m (i + 1) (by omega)
    have hS := hs _ (List.getElem_mem hi)
    refine Tells.succ (fun k => by rw [sequiturref20_Value.l0]) (Tells.pos (by omega) (Tells.pos (by omega) ?_))
    rw [rdL_at _ _ hi, hl.w hn, w64s hi hls, List.drop_eq_getElem_cons hi, List.flatten_cons]
    refine Tells.bind (r17_Has_tells Ls[i] l hS) ?_
    by_cases h1 : l ∈ Ls[i]
    · rw [(hasL_in hn hl).2 h1]
      refine Tells.pos rfl ?_
      rw [show valM (Ls[i] ++ (Ls.drop (i + 1)).flatten) l = 1 by unfold valM; rw [if_pos (List.mem_append_left _ h1)]]
      exact Tells.const _
    · rw [Bool.eq_false_iff.2 (fun h => h1 ((hasL_in hn hl).1 h))]
      refine Tells.neg (by decide) (Tells.bind (r17_Has_tells Ls[i] (-l) hS) ?_)
      have hfl : ∀ x, x ∈ (Ls.drop (i + 1)).flatten → x ∈ Ls.flatten := fun x hx => by
        obtain ⟨c, hc, hx⟩ := List.mem_flatten.1 hx
        exact List.mem_flatten.2 ⟨c, List.mem_of_mem_drop hc, hx⟩
      by_cases h2 : -l ∈ Ls[i]
      · rw [(hasL_in hn hl.neg).2 h2]
        refine Tells.pos rfl ?_
        have hin : -l ∈ Ls.flatten := List.mem_flatten.2 ⟨_, List.getElem_mem hi, h2⟩
        have hno : l ∉ Ls[i] ++ (Ls.drop (i + 1)).flatten := fun h => by
          have hl2 : l ∈ Ls.flatten := (List.mem_append.1 h).elim (fun h => absurd h h1) (hfl l)
          exact hc l hl2 hin
        rw [show valM (Ls[i] ++ (Ls.drop (i + 1)).flatten) l = -1 by unfold valM; rw [if_neg hno, if_pos (List.mem_append_left _ h2)]]
        exact Tells.const _
      · rw [Bool.eq_false_iff.2 (fun h => h2 ((hasL_in hn hl.neg).1 h))]
        refine Tells.neg (by decide) ?_
        have e : valM (Ls[i] ++ (Ls.drop (i + 1)).flatten) l = valM (Ls.drop (i + 1)).flatten l := by
          unfold valM
          simp only [List.mem_append, h1, h2, false_or]
        rw [e]
        exact ih
theorem valueM {n : Int} (hn : n ≤ 1024) (N : Int) (cls : List (List Int)) (b : Bool) {l : Int} (hl : InN n l) {Ls : List (List Int)} (hls : Ls.length < 4611686018427387904) (hs : ∀ S ∈ Ls, S.length < 4611686018427387904) (hc : Cons Ls.flatten) :
    Tells (fun k => sequiturref20_Value.f k N cls Ls b l) (valM Ls.flatten l) := by
  unfold sequiturref20_Value.f
  exact valueM_loop hn N cls b hl Ls hls hs hc Ls.length 0 rfl
def openM (S : List Int) : List Int → Int → Int → Int × Bool
  | [], f, n => if n = 1 then (f, false) else (0, n == 0)
  | x :: t, f, n => if valM S x > 0 then (0, false) else if valM S x = 0 then openM S t x (n + 1) else openM S t f n
theorem openM_loop {n : Int} (hn : n ≤ 1024) (N : Int) (cls Ls : List (List Int)) (c : List Int) (b : Bool) (hc : ∀ x ∈ c, InN n x) (hls : Ls.length < 4611686018427387904) (hs : ∀ S ∈ Ls, S.length < 4611686018427387904) (hcs : c.length < 4611686018427387904) (hcon : Cons Ls.flatten) : ∀ (m i q : Nat) (f : Int), m + i = c.length → q ≤ i →
    Tells (fun k => sequiturref20_open.l0 k c f (q : Int) (i : Int) N cls Ls b) (openM Ls.flatten (c.drop i) f (q : Int))
  | 0, i, q, f, h, hq => by
    refine Tells.succ (fun k => by rw [sequiturref20_open.l0]) (Tells.neg (by omega) ?_)
    rw [List.drop_of_length_le (by omega), openM]
    by_cases e : (q : Int) = 1
    · refine Tells.pos e ?_; rw [if_pos e]; exact Tells.const _
    · refine Tells.neg e ?_; rw [if_neg e]; exact Tells.const _
  | m + 1, i, q, f, h, hq => by
    have hi : i < c.length := by omega
    have h1 := hc _ (List.getElem_mem hi)
    rw [List.drop_eq_getElem_cons hi, openM]
    refine Tells.succ (fun k => by rw [sequiturref20_open.l0]) (Tells.pos (by omega) (Tells.pos (by omega) ?_))
    rw [rd_at _ _ hi, w64s hi hcs, w64s (by omega : q < c.length) hcs]
    refine Tells.bind (valueM hn N cls b h1 hls hs hcon) ?_
    by_cases hp : valM Ls.flatten c[i] > 0
    · rw [if_pos hp]; exact Tells.pos hp (Tells.const _)
    · rw [if_neg hp]
      refine Tells.neg hp ?_
      by_cases hz : valM Ls.flatten c[i] = 0
      · rw [if_pos hz]
        exact Tells.pos hz (openM_loop hn N cls Ls c b hc hls hs hcs hcon m (i + 1) (q + 1) c[i] (by omega) (by omega))
      · rw [if_neg hz]
        exact Tells.neg hz (openM_loop hn N cls Ls c b hc hls hs hcs hcon m (i + 1) q f (by omega) (by omega))
theorem openM_tells {n : Int} (hn : n ≤ 1024) (N : Int) (cls Ls : List (List Int)) (c : List Int) (b : Bool) (hc : ∀ x ∈ c, InN n x) (hls : Ls.length < 4611686018427387904) (hs : ∀ S ∈ Ls, S.length < 4611686018427387904) (hcs : c.length < 4611686018427387904) (hcon : Cons Ls.flatten) :
    Tells (fun k => sequiturref20_open.f k N cls Ls b c) (openM Ls.flatten c 0 0) := openM_loop hn N cls Ls c b hc hls hs hcs hcon c.length 0 0 0 rfl (Nat.le_refl _)
theorem valM_cases (S : List Int) (l : Int) : (valM S l = 1 ∧ l ∈ S) ∨ (valM S l = -1 ∧ l ∉ S ∧ -l ∈ S) ∨ (valM S l = 0 ∧ l ∉ S ∧ -l ∉ S) := by
  unfold valM
  by_cases h : l ∈ S
  · rw [if_pos h]; exact .inl ⟨rfl, h⟩
  · rw [if_neg h]
    by_cases h3 : -l ∈ S
    · rw [if_pos h3]; exact .inr (.inl ⟨rfl, h, h3⟩)
    · rw [if_neg h3]; exact .inr (.inr ⟨rfl, h, h3⟩)
def SeenM (S : List Int) (p : List Int) (f : Int) (m : Nat) : Prop :=
  (m = 0 ∧ ∀ x ∈ p, -x ∈ S) ∨ (m = 1 ∧ f ∈ p ∧ f ∉ S ∧ -f ∉ S ∧ ∀ x ∈ p, x ≠ f → -x ∈ S) ∨ (2 ≤ m ∧ (f ∈ p ∧ f ∉ S ∧ -f ∉ S) ∧ CQuiet S p)
theorem CQuiet.more {S p q : List Int} (h : CQuiet S p) (hq : ∀ x ∈ p, x ∈ q) : CQuiet S q :=
  h.imp (fun ⟨x, h1, h2⟩ => ⟨x, hq x h1, h2⟩) (fun ⟨x, y, h1, h2, h3⟩ => ⟨x, y, hq x h1, hq y h2, h3⟩)
theorem openM_spec {S : List Int} : ∀ (t p : List Int) (f : Int) (m : Nat), (∀ x ∈ p ++ t, x ≠ 0) → (p ++ t).Nodup → SeenM S p f m →
    ((openM S t f (m : Int)).2 = true ∧ ∀ x ∈ p ++ t, -x ∈ S) ∨ ((openM S t f (m : Int)).2 = false ∧ (openM S t f (m : Int)).1 ≠ 0 ∧ (openM S t f (m : Int)).1 ∈ p ++ t ∧ (openM S t f (m : Int)).1 ∉ S ∧ -(openM S t f (m : Int)).1 ∉ S ∧ ∀ x ∈ p ++ t, x ≠ (openM S t f (m : Int)).1 → -x ∈ S) ∨
      ((openM S t f (m : Int)).2 = false ∧ (openM S t f (m : Int)).1 = 0 ∧ CQuiet S (p ++ t))
  | [], p, f, m, hl, _, hs => by
    rw [List.append_nil] at hl ⊢
    unfold openM
    rcases hs with ⟨rfl, h⟩ | ⟨rfl, h1, h2, h3, h4⟩ | ⟨h1, _, h2⟩
    · rw [if_neg (by decide)]; exact .inl ⟨rfl, h⟩
    · rw [if_pos (show ((1 : Nat) : Int) = 1 from rfl)]; exact .inr (.inl ⟨rfl, hl f h1, h1, h2, h3, h4⟩)
    · rw [if_neg (by omega)]
      exact .inr (.inr ⟨beq_eq_false_iff_ne.2 (by omega), rfl, h2⟩)
  | l :: t, p, f, m, hl, hd, hs => by
    have hm : l ∈ p ++ l :: t := by simp
    have hlp : l ∉ p := fun h => by
      rw [List.nodup_append] at hd
      exact hd.2.2 l h l (by simp) rfl
    have ih := openM_spec (S := S) t (p ++ [l])
    rw [List.append_assoc, List.singleton_append] at ih
    unfold openM
    have left : ∀ {x}, x ∈ p → x ∈ p ++ [l] := fun h => by simp [h]
    rcases valM_cases S l with ⟨h1, h2⟩ | ⟨h1, h0, h2⟩ | ⟨h1, h2, h3⟩
    · rw [if_pos (by omega)]
      exact .inr (.inr ⟨rfl, rfl, .inl ⟨l, hm, h2⟩⟩)
    · rw [if_neg (by omega), if_neg (by omega)]
      refine ih f m hl hd ?_
      rcases hs with ⟨a, b⟩ | ⟨a, b, c, d, e⟩ | ⟨a, ⟨b1, b2, b3⟩, b⟩
      · refine .inl ⟨a, fun x hx => ?_⟩
        rcases List.mem_append.1 hx with hx | hx
        · exact b x hx
        · rw [List.mem_singleton.1 hx]; exact h2
      · refine .inr (.inl ⟨a, left b, c, d, fun x hx hne => ?_⟩)
        rcases List.mem_append.1 hx with hx | hx
        · exact e x hx hne
        · rw [List.mem_singleton.1 hx]; exact h2
      · exact .inr (.inr ⟨a, ⟨left b1, b2, b3⟩, b.more (fun _ h => left h)⟩)
    · rw [if_neg (by omega), if_pos h1, show (m : Int) + 1 = ((m + 1 : Nat) : Int) by omega]
      refine ih l (m + 1) hl hd ?_
      rcases hs with ⟨a, b⟩ | ⟨a, b, c, d, e⟩ | ⟨a, ⟨b1, b2, b3⟩, b⟩
      · refine .inr (.inl ⟨by omega, by simp, h2, h3, fun x hx hne => ?_⟩)
        rcases List.mem_append.1 hx with hx | hx
        · exact b x hx
        · exact absurd (List.mem_singleton.1 hx) hne
      · exact .inr (.inr ⟨by omega, ⟨by simp, h2, h3⟩, .inr ⟨l, f, by simp, left b, fun e' => hlp (e' ▸ b), ⟨h2, h3⟩, ⟨c, d⟩⟩⟩)
      · exact .inr (.inr ⟨by omega, ⟨by simp, h2, h3⟩, b.more (fun _ h => left h)⟩)
def freeM (n : Int) (S : List Int) : Nat := (List.range n.toNat).countP fun i : Nat => !(S.contains ((i : Int) + 1)) && !(S.contains (-((i : Int) + 1)))
theorem countP_ltM {α : Type} {p q : α → Bool} : ∀ {l : List α}, (∀ x ∈ l, q x = true → p x = true) → (∃ x ∈ l, p x = true ∧ q x = false) → l.countP q < l.countP p
  | [], _, h => by obtain ⟨x, hx, _⟩ := h; cases hx
  | y :: l, h, hx => by
    obtain ⟨x, hx, h1, h2⟩ := hx
    have hle : l.countP q ≤ l.countP p := List.countP_mono_left (fun z hz hq => h z (by simp [hz]) hq)
    rw [List.countP_cons, List.countP_cons]
    rcases List.mem_cons.1 hx with rfl | hx
    · rw [if_pos h1, if_neg (by rw [h2]; decide)]; omega
    · have ih := countP_ltM (p := p) (q := q) (l := l) (fun z hz => h z (by simp [hz])) ⟨x, hx, h1, h2⟩
      by_cases hq : q y = true
      · rw [if_pos hq, if_pos (h y (by simp) hq)]; omega
      · rw [if_neg hq]; split <;> omega
theorem freeM_lt {n : Int} {S : List Int} {o : Int} (hx : InN n o) (h1 : o ∉ S) (h2 : -o ∉ S) : freeM n (S ++ [o]) < freeM n S := by
  unfold InN at hx
  unfold freeM
  refine countP_ltM (fun i _ h => ?_) ⟨o.natAbs - 1, List.mem_range.2 (by omega), ?_, ?_⟩
  · simp only [Bool.and_eq_true, Bool.not_eq_true', List.contains_eq_mem, List.mem_append, decide_eq_false_iff_not, not_or] at h ⊢
    exact ⟨h.1.1, h.2.1⟩
  · simp only [Bool.and_eq_true, Bool.not_eq_true', List.contains_eq_mem, decide_eq_false_iff_not]
    have e : ((o.natAbs - 1 : Nat) : Int) + 1 = o ∨ ((o.natAbs - 1 : Nat) : Int) + 1 = -o := by omega
    rcases e with e | e
    · rw [e]; exact ⟨h1, h2⟩
    · rw [e, Int.neg_neg]; exact ⟨h2, h1⟩
  · have e : ((o.natAbs - 1 : Nat) : Int) + 1 = o ∨ ((o.natAbs - 1 : Nat) : Int) + 1 = -o := by omega
    rcases e with e | e
    · rw [e]; simp
    · rw [e, Int.neg_neg]; simp
theorem freeM_le (n : Int) (S : List Int) : freeM n S ≤ n.toNat := by
  unfold freeM
  have := List.countP_le_length (p := fun i : Nat => !(S.contains ((i : Int) + 1)) && !(S.contains (-((i : Int) + 1)))) (l := List.range n.toNat)
  rwa [List.length_range] at this
def lvl (Ls : List (List Int)) (ext : List Int) : List (List Int) := Ls.dropLast ++ [Ls.getLastD [] ++ ext]
theorem lvl_length {Ls : List (List Int)} (h : Ls ≠ []) (ext : List Int) : (lvl Ls ext).length = Ls.length := by
  unfold lvl
  have := List.length_pos_iff.2 h
  rw [List.length_append, List.length_dropLast, List.length_singleton]; omega
theorem lvl_nil {Ls : List (List Int)} (h : Ls ≠ []) : lvl Ls [] = Ls := by
  unfold lvl
  rw [List.append_nil, List.getLastD_eq_getLast?, List.getLast?_eq_some_getLast h]
  exact List.dropLast_concat_getLast h
theorem putM_eq (N : Int) (cls : List (List Int)) {Ls : List (List Int)} (hne : Ls ≠ []) (ext : List Int) (o : Int) (h : Ls.length < 100000) (h2 : (Ls.getLastD [] ++ ext).length < 100000) :
    sequiturref20_put.f N cls (lvl Ls ext) false o = some (N, cls, lvl Ls (ext ++ [o]), false) := by
  have hl := List.length_pos_iff.2 hne
  have hd : Ls.dropLast.length = Ls.length - 1 := List.length_dropLast
  have hll := lvl_length hne ext
  have hw : wrap64 (((lvl Ls ext).length : Int) - 1) = ((Ls.length - 1 : Nat) : Int) := by rw [hll]; unfold wrap64; omega
  have hrd : rd_L3 (lvl Ls ext) ((Ls.length - 1 : Nat) : Int) = Ls.getLastD [] ++ ext := by
    rw [rdL_at _ _ (by rw [hll]; omega)]
    unfold lvl
    rw [List.getElem_append_right (by rw [hd]; exact Nat.le_refl _)]
    simp [hd]
  have hset : ∀ v : List Int, (lvl Ls ext).set (Ls.length - 1) v = Ls.dropLast ++ [v] := fun v => by
    unfold lvl
    rw [List.set_append_right _ _ (by rw [hd]; exact Nat.le_refl _), hd, Nat.sub_self]
    rfl
  unfold sequiturref20_put.f
  simp only [Option.bind_some, List.nil_append]
  rw [if_pos (by rw [hll]; simp; omega), hw, if_pos (by omega), if_pos (by rw [hll]; omega), hrd, if_pos (by simp at h2 ⊢; omega), if_pos (by omega)]
  simp only [Int.toNat_natCast, hset]
  unfold lvl
  rw [List.append_assoc]
theorem flat_len_mem : ∀ {Ls : List (List Int)} {R : List Int}, R ∈ Ls → R.length ≤ Ls.flatten.length
  | [], _, h => by cases h
  | X :: Ls, R, h => by
    rw [List.flatten_cons, List.length_append]
    rcases List.mem_cons.1 h with e | h
    · rw [e]; omega
    · have := flat_len_mem h; omega
theorem cchain_snoc {C : List (List Int)} {S0 ext : List Int} {o : Int} (h : CChain C S0 ext) (hf : CForced C (S0 ++ ext) o) : CChain C S0 (ext ++ [o]) := by
  intro i x hx
  rw [List.getElem?_append] at hx
  by_cases e : i < ext.length
  · rw [if_pos e] at hx
    rw [List.take_append_of_le_length (by omega)]
    exact h i x hx
  · rw [if_neg e] at hx
    have hi : i - ext.length = 0 := by
      have := (List.getElem?_eq_some_iff.1 hx).1
      simp at this; omega
    have hie : i = ext.length := by omega
    rw [hi] at hx
    have hxo : o = x := by simpa using hx
    rw [hie, List.take_append_of_le_length (Nat.le_refl _), List.take_length, ← hxo]
    exact hf
theorem openM_spec0 {S c : List Int} (h0 : ∀ x ∈ c, x ≠ 0) (hd : c.Nodup) : ((openM S c 0 0).2 = true ∧ ∀ x ∈ c, -x ∈ S) ∨ ((openM S c 0 0).2 = false ∧ (openM S c 0 0).1 ≠ 0 ∧ (openM S c 0 0).1 ∈ c ∧ (openM S c 0 0).1 ∉ S ∧ -(openM S c 0 0).1 ∉ S ∧ ∀ x ∈ c, x ≠ (openM S c 0 0).1 → -x ∈ S) ∨ ((openM S c 0 0).2 = false ∧ (openM S c 0 0).1 = 0 ∧ CQuiet S c) := by
  have := openM_spec (S := S) c [] 0 0 (by rw [List.nil_append]; exact h0) (by rw [List.nil_append]; exact hd) (.inl ⟨rfl, fun x hx => by cases hx⟩)
  rw [List.nil_append] at this
  exact this
structure MidM (n : Int) (C : List (List Int)) (S0 ext : List Int) : Prop where
  chain : CChain C S0 ext
  cons : Cons (S0 ++ ext)
  nd : (S0 ++ ext).Nodup
  inn : ∀ x ∈ S0 ++ ext, InN n x
theorem MidM.snoc {n : Int} {C : List (List Int)} {S0 ext c : List Int} {o : Int} (h : MidM n C S0 ext) (hc : c ∈ C) (hcn : ∀ x ∈ c, InN n x) (ho : o ∈ c) (h1 : o ∉ S0 ++ ext) (h2 : -o ∉ S0 ++ ext) (h3 : ∀ x ∈ c, x ≠ o → -x ∈ S0 ++ ext) : MidM n C S0 (ext ++ [o]) := by
  have hon := hcn o ho
  refine ⟨cchain_snoc h.chain ⟨c, hc, ho, h3⟩, fun x hx hnx => ?_, ?_, fun x hx => ?_⟩
  · rw [← List.append_assoc] at hx hnx
    rcases List.mem_append.1 hx with a | a <;> rcases List.mem_append.1 hnx with b | b
    · exact h.cons x a b
    · have := List.mem_singleton.1 b
      exact h2 (by rw [← this, Int.neg_neg]; exact a)
    · rw [List.mem_singleton.1 a] at b; exact h2 b
    · have e1 := List.mem_singleton.1 a
      have e2 := List.mem_singleton.1 b
      have := hon.1
      omega
  · rw [← List.append_assoc]
    refine List.nodup_append.2 ⟨h.nd, by simp, fun x hx y hy e => ?_⟩
    rw [List.mem_singleton.1 hy] at e
    exact h1 (e ▸ hx)
  · rw [← List.append_assoc] at hx
    rcases List.mem_append.1 hx with a | a
    · exact h.inn x a
    · rw [List.mem_singleton.1 a]; exact hon
theorem onM_spec {n : Int} {cls Ls : List (List Int)} (N : Int) (hn : 0 ≤ n ∧ n ≤ 1024) (hne : Ls ≠ []) (hls : Ls.length < 100000) (hlen : cls.length < 4611686018427387904) (hcls : ∀ c ∈ cls, (∀ x ∈ c, InN n x) ∧ c.Nodup ∧ c.length < 4611686018427387904) (hbase : Ls.flatten.length ≤ 2050) : ∀ (m : Nat) (ext : List Int), freeM n (Ls.flatten ++ ext) ≤ m → ext.length + m ≤ 5000 → MidM n cls Ls.flatten ext →
    ∃ ext' b, Tells (fun k => sequiturref20_On.l0 k N cls (lvl Ls ext) false) (N, cls, lvl Ls ext', b) ∧ MidM n cls Ls.flatten ext' ∧ Gone cls Ls.flatten ext' b
  | m, ext, hf, hS, hM => by
    have hflat : (lvl Ls ext).flatten = Ls.flatten ++ ext := flat_last hne ext
    have hll := lvl_length hne ext
    have hrow : ∀ S ∈ lvl Ls ext, S.length < 4611686018427387904 := fun S hS' => by
      have h1 : S.length ≤ (lvl Ls ext).flatten.length := flat_len_mem hS'
      rw [hflat, List.length_append] at h1; omega
    have hlast : (Ls.getLastD [] ++ ext).length < 100000 := by
      have h1 : (Ls.getLastD [] ++ ext).length ≤ (lvl Ls ext).flatten.length := flat_len_mem (by unfold lvl; simp)
      have h2 : (Ls.flatten ++ ext).length = Ls.flatten.length + ext.length := List.length_append
      rw [hflat, h2] at h1; omega
    have hcon : Cons (lvl Ls ext).flatten := by rw [hflat]; exact hM.cons
    have more : ∀ o, (∃ c ∈ cls, o ∈ c ∧ o ∉ Ls.flatten ++ ext ∧ -o ∉ Ls.flatten ++ ext ∧ ∀ x ∈ c, x ≠ o → -x ∈ Ls.flatten ++ ext) → ∃ ext' b, Tells (fun k => sequiturref20_On.l0 k N cls (lvl Ls (ext ++ [o])) false) (N, cls, lvl Ls ext', b) ∧ MidM n cls Ls.flatten ext' ∧ Gone cls Ls.flatten ext' b := by
      rintro o ⟨c, hc, ho, h1, h2, h3⟩
      have hx := (hcls c hc).1 o ho
      have hlt := freeM_lt hx h1 h2
      cases m with
      | zero => omega
      | succ m => exact onM_spec N hn hne hls hlen hcls hbase m (ext ++ [o]) (by rw [← List.append_assoc]; omega) (by simp; omega) (hM.snoc hc (hcls c hc).1 ho h1 h2 h3)
    clear hf hS
    have loop : ∀ (j i : Nat) (found : Int), j + i = cls.length → (found = 0 → ∀ c ∈ cls.take i, CQuiet (Ls.flatten ++ ext) c) → (found ≠ 0 → ∃ c ∈ cls, found ∈ c ∧ found ∉ Ls.flatten ++ ext ∧ -found ∉ Ls.flatten ++ ext ∧ ∀ x ∈ c, x ≠ found → -x ∈ Ls.flatten ++ ext) →
        ∃ ext' b, Tells (fun k => sequiturref20_On.l1 k found (i : Int) N cls (lvl Ls ext) false) (N, cls, lvl Ls ext', b) ∧ MidM n cls Ls.flatten ext' ∧ Gone cls Ls.flatten ext' b := by
      intro j
      induction j with
      | zero =>
        intro i found h h0 h1
        by_cases hz : found = 0
        · refine ⟨ext, false, Tells.succ (fun k => by rw [sequiturref20_On.l1]) (Tells.neg (by omega) (Tells.pos hz (Tells.const _))), hM, hM.chain, hM.cons, (fun h => by cases h), fun _ c hc => ?_⟩
          have hL := h0 hz
          rw [List.take_of_length_le (by omega)] at hL
          exact hL c hc
        · obtain ⟨ext', b, hr, hm, hg⟩ := more found (h1 hz)
          refine ⟨ext', b, Tells.succ (fun k => by rw [sequiturref20_On.l1]) (Tells.neg (by omega) (Tells.neg hz ?_)), hm, hg⟩
          rw [putM_eq N cls hne ext found hls hlast]
          exact hr
      | succ j ih =>
        intro i found h h0 h1
        have hi : i < cls.length := by omega
        have hc := List.getElem_mem hi
        obtain ⟨c1, c2, c3⟩ := hcls _ hc
        have hT := openM_tells hn.2 N cls (lvl Ls ext) cls[i] false c1 (by rw [hll]; omega) hrow c3 hcon
        rw [hflat] at hT
        have hw := w64s hi hlen
        have htake : cls.take (i + 1) = cls.take i ++ [cls[i]] := by rw [List.take_add_one, List.getElem?_eq_getElem hi]; rfl
        have hsp := openM_spec0 (S := Ls.flatten ++ ext) (fun x hx => (c1 x hx).1) c2
        obtain ⟨⟨r1, r2⟩, hr0⟩ : ∃ r, openM (Ls.flatten ++ ext) cls[i] 0 0 = r := ⟨_, rfl⟩
        rw [hr0] at hsp hT
        dsimp only at hsp
        rcases hsp with ⟨a, b⟩ | ⟨a, b, d, e, f, g⟩ | ⟨a, b, d⟩
        · refine ⟨ext, true, Tells.succ (fun k => by rw [sequiturref20_On.l1]) (Tells.pos (by omega) (Tells.pos (by omega) ?_)), hM, hM.chain, hM.cons, fun _ => ⟨cls[i], hc, b⟩, (fun h => by cases h)⟩
          rw [rdL_at _ _ hi]
          exact Tells.bind hT (Tells.pos a (Tells.const _))
        · obtain ⟨ext', b', hr, hm, hg⟩ := ih (i + 1) r1 (by omega) (fun e => absurd e b) (fun _ => ⟨cls[i], hc, d, e, f, g⟩)
          refine ⟨ext', b', Tells.succ (fun k => by rw [sequiturref20_On.l1]) (Tells.pos (by omega) (Tells.pos (by omega) ?_)), hm, hg⟩
          rw [rdL_at _ _ hi, hw]
          exact Tells.bind hT (Tells.neg (by rw [a]; exact Bool.false_ne_true) (Tells.neg b hr))
        · obtain ⟨ext', b', hr, hm, hg⟩ := ih (i + 1) found (by omega) (fun e c hc' => by
            rw [htake] at hc'
            rcases List.mem_append.1 hc' with hc' | hc'
            · exact h0 e c hc'
            · rw [List.mem_singleton.1 hc']; exact d) h1
          refine ⟨ext', b', Tells.succ (fun k => by rw [sequiturref20_On.l1]) (Tells.pos (by omega) (Tells.pos (by omega) ?_)), hm, hg⟩
          rw [rdL_at _ _ hi, hw]
          exact Tells.bind hT (Tells.neg (by rw [a]; exact Bool.false_ne_true) (Tells.pos b hr))
    obtain ⟨ext', b, hr, hm, hg⟩ := loop cls.length 0 0 rfl (fun _ c hc => by cases hc) (fun h => absurd rfl h)
    exact ⟨ext', b, Tells.succ (h := fun k => sequiturref20_On.l1 k 0 0 N cls (lvl Ls ext) false) (fun k => by rw [sequiturref20_On.l0]) hr, hm, hg⟩
theorem onM {n : Int} {cls Ls : List (List Int)} (N : Int) (hn : 0 ≤ n ∧ n ≤ 1024) (hne : Ls ≠ []) (hls : Ls.length < 100000) (hlen : cls.length < 4611686018427387904) (hcls : ∀ c ∈ cls, (∀ x ∈ c, InN n x) ∧ c.Nodup ∧ c.length < 4611686018427387904) (hbase : Ls.flatten.length ≤ 2050) (hcon : Cons Ls.flatten) (hnd : Ls.flatten.Nodup) (hin : ∀ x ∈ Ls.flatten, InN n x) :
    ∃ Ls' b, Tells (fun k => sequiturref20_On.f k N cls Ls false) (N, cls, Ls', b) ∧ Goes cls Ls Ls' b ∧ ∀ x ∈ Ls'.flatten, InN n x := by
  have hf := freeM_le n (Ls.flatten ++ [])
  obtain ⟨ext, b, hr, hm, hg⟩ := onM_spec (n := n) (cls := cls) (Ls := Ls) N hn hne hls hlen hcls hbase _ [] (Nat.le_refl _) (by rw [List.length_nil]; omega) ⟨fun i x hx => by simp at hx, by rw [List.append_nil]; exact hcon, by rw [List.append_nil]; exact hnd, by rw [List.append_nil]; exact hin⟩
  rw [lvl_nil hne] at hr
  refine ⟨lvl Ls ext, b, hr, ⟨ext, rfl, hg, hm.nd⟩, ?_⟩
  rw [show (lvl Ls ext).flatten = Ls.flatten ++ ext from flat_last hne ext]
  exact hm.inn
theorem has_run (c : List Int) (x : Int) (hs : c.length < 4611686018427387904) : ∀ (m i k : Nat), m + i = c.length → m < k → sequiturref17_Has.l0 k c x (i : Int) = some (hasL (c.drop i) x)
  | 0, i, 0, _, h => absurd h (Nat.not_lt_zero _)
  | 0, i, k + 1, h, _ => by
    rw [sequiturref17_Has.l0, if_neg (by omega), List.drop_of_length_le (by omega), show hasL [] x = false by unfold hasL; simp]
  | m + 1, i, 0, _, h => absurd h (Nat.not_lt_zero _)
  | m + 1, i, k + 1, h, hk => by
    have hi : i < c.length := by omega
    have ih := has_run c x hs m (i + 1) k (by omega) (by omega)
    rw [sequiturref17_Has.l0, if_pos (by omega), r17_is_eq, Option.bind_some, rd_at _ _ hi, w64s hi hs, List.drop_eq_getElem_cons hi]
    by_cases hx : isL x = true
    · rw [if_pos hx, if_pos (by omega)]
      by_cases he : c[i] = x
      · rw [if_pos he, show hasL (c[i] :: c.drop (i + 1)) x = true from hasL_iff.2 ⟨hx, by simp [he]⟩]
      · rw [if_neg he, ih, show hasL (c[i] :: c.drop (i + 1)) x = hasL (c.drop (i + 1)) x by unfold hasL; rw [List.any_cons, beq_eq_false_iff_ne.2 he, Bool.false_or]]
    · rw [if_neg hx, ih, show hasL (c[i] :: c.drop (i + 1)) x = hasL (c.drop (i + 1)) x by unfold hasL; rw [Bool.eq_false_iff.2 hx]; rfl]
theorem has_at {c : List Int} {x : Int} {k : Nat} (h : c.length < 5000) (hk : 5000 ≤ k) : sequiturref17_Has.f k c x = some (hasL c x) := by
  unfold sequiturref17_Has.f
  exact has_run c x (by omega) c.length 0 k rfl (by omega)
theorem lits_short {n : Int} (hn : n ≤ 1024) {c : List Int} (hc : ∀ x ∈ c, InN n x) (hd : c.Nodup) : c.length ≤ 2049 := by
  have := nodup_le (L := (List.range 2049).map fun i : Nat => (i : Int) - 1024) hd (fun x hx => by
    have h1 := hc x hx
    unfold InN at h1
    exact List.mem_map.2 ⟨(x + 1024).toNat, List.mem_range.2 (by omega), by omega⟩)
  simpa using this
def lvOf (st : List Int) (i : Nat) : Int := ((st.filter fun a => decide (a < (i : Int))).length : Nat)
theorem lvOf_succ (st : List Int) (i : Nat) : lvOf st (i + 1) = cnt st i := by
  unfold lvOf cnt
  congr 2
  refine List.filter_congr fun a _ => ?_
  by_cases h : a ≤ (i : Int)
  · rw [decide_eq_true h, decide_eq_true (by omega)]
  · rw [decide_eq_false h, decide_eq_false (by omega)]
theorem cnt_lv : ∀ (st : List Int) (i : Nat), st.Pairwise (· < ·) → ((i : Int) ∈ st → cnt st i = lvOf st i + 1) ∧ ((i : Int) ∉ st → cnt st i = lvOf st i)
  | [], i, _ => ⟨fun h => absurd h (by simp), fun _ => rfl⟩
  | a :: t, i, h => by
    obtain ⟨h1, h2⟩ := List.pairwise_cons.1 h
    obtain ⟨ih1, ih2⟩ := cnt_lv t i h2
    have c1 : cnt (a :: t) i = cnt t i + (if a ≤ (i : Int) then 1 else 0) := by
      unfold cnt
      by_cases e : a ≤ (i : Int)
      · rw [List.filter_cons_of_pos (p := fun a => decide (a ≤ (i : Int))) (decide_eq_true e), if_pos e, List.length_cons]; omega
      · rw [List.filter_cons_of_neg (p := fun a => decide (a ≤ (i : Int))) (by simpa using e), if_neg e]; omega
    have c2 : lvOf (a :: t) i = lvOf t i + (if a < (i : Int) then 1 else 0) := by
      unfold lvOf
      by_cases e : a < (i : Int)
      · rw [List.filter_cons_of_pos (p := fun a => decide (a < (i : Int))) (decide_eq_true e), if_pos e, List.length_cons]; omega
      · rw [List.filter_cons_of_neg (p := fun a => decide (a < (i : Int))) (by simpa using e), if_neg e]; omega
    by_cases e2 : a = (i : Int)
    · have hno : (i : Int) ∉ t := fun hm => by have := h1 _ hm; omega
      have hi := ih2 hno
      refine ⟨fun _ => ?_, fun q => absurd (by rw [e2]; simp) q⟩
      rw [c1, c2, if_pos (by omega), if_neg (by omega)]; omega
    · have hmm : (i : Int) ∈ a :: t ↔ (i : Int) ∈ t := ⟨fun h => (List.mem_cons.1 h).elim (fun q => absurd q.symm e2) id, fun h => List.mem_cons_of_mem _ h⟩
      have hsame : (if a ≤ (i : Int) then (1 : Int) else 0) = (if a < (i : Int) then 1 else 0) := by
        by_cases e : a < (i : Int)
        · rw [if_pos e, if_pos (by omega)]
        · rw [if_neg e, if_neg (by omega)]
      rw [hmm, c1, c2, hsame]
      exact ⟨fun q => by have := ih1 q; omega, fun q => by have := ih2 q; omega⟩
section
variable {E : Eng}
theorem Fine.mark2 (h : Fine E) {x : Int} (hx : x ∈ E.tr) : E.markV ((x.natAbs : Nat) : Int) = E.ms x := by
  have hin := h.tr x hx
  have h0 := hin.1
  have hn := h.n0
  unfold InN at hin
  unfold Eng.markV
  rw [if_neg (by omega)]
  by_cases hp : 0 < x
  · rw [show ((x.natAbs : Nat) : Int) = x by omega, if_pos ((h.mks x).2 hx)]
  · rw [show ((x.natAbs : Nat) : Int) = -x by omega, if_neg (fun e => h.con x hx ((h.mks _).1 e)), show wrap64 (-(-x)) = x by unfold wrap64; omega]
theorem InN.nabs {n x : Int} (h : InN n x) (hn : n ≤ 1024) : (Lit.int .i64 ((x.natAbs : Nat) : Int)).wf = true := by
  unfold InN at h
  exact InN.wf (n := n) ⟨by omega, by omega, by omega⟩ hn
theorem not_take {tr : List Int} (hn : tr.Nodup) {i : Nat} {x : Int} (hx : tr[i]? = some x) : x ∉ tr.take i := fun h => by
  obtain ⟨j, hj⟩ := List.mem_iff_getElem?.1 h
  rw [List.getElem?_take] at hj
  split at hj
  · rename_i hlt
    have h1 := (List.getElem?_eq_some_iff.1 hx).1
    have h2 := (List.getElem?_eq_some_iff.1 hj).1
    have : j = i := (List.getElem?_inj h2 hn).1 (hj.trans hx.symm)
    omega
  · cases hj
theorem hasL_false {n : Int} (hn : n ≤ 1024) {S : List Int} {l : Int} (hl : InN n l) (h : l ∉ S) : hasL S l = false := Bool.eq_false_iff.2 fun q => h ((hasL_in hn hl).1 q)
theorem why_ok (h : Well E) {k : Nat} (hk : 5000 ≤ k) (hneat : Neat E) (i : Nat) (x : Int) (hx : E.tr[i]? = some x) : ReasonP k E E.cls E.tr (lvOf E.st) i x := by
  have hf := h.fine
  have hn := hf.n0.2
  have hxm : x ∈ E.tr := List.mem_of_getElem? hx
  have hin := hf.tr x hxm
  have hs := hf.short
  have htl : (E.tr.take i).length < 5000 := by rw [List.length_take]; omega
  obtain ⟨why, hms, h1, h2⟩ := h.just i x hx
  have hmk := hf.mark2 hxm
  rw [hms] at hmk
  have hlev : E.level ((x.natAbs : Nat) : Int) = cnt E.st i := by unfold Eng.level; rw [hmk]
  have hwhy : E.why ((x.natAbs : Nat) : Int) = why := by unfold Eng.why; rw [hmk]
  refine ⟨((x.natAbs : Nat) : Int), r17_Of_eq (hin.i64 hn) (hin.isL hn), hin.nabs hn, ?_, ?_, by rw [lvOf_succ, hlev], by rw [hlev]; exact cnt_le _ _, ?_⟩
  · rw [has_at htl hk, hasL_false hn hin (not_take hf.nd hx)]
  · rw [has_at htl hk, hin.w hn, hasL_false hn hin.neg (fun hm => hf.con x hxm (List.mem_of_mem_take hm))]
  · rw [hlev, hwhy]
    obtain ⟨q1, q2⟩ := cnt_lv E.st i h.inc
    by_cases hi : (i : Int) ∈ E.st
    · exact .inl ⟨q1 hi, by rw [h1 hi]; decide⟩
    · rw [q2 hi]
      obtain ⟨f1, f2, f3, f4⟩ := h2 hi
      have hc := getD_mem (d := ([] : List Int)) f2
      have hcl := lits_short hn (hf.cls _ hc) (hneat _ hc)
      refine .inr ⟨rfl, f1, by omega, ?_, fun y hy hne => ?_⟩
      · rw [has_at (by omega) hk, (hasL_in hn hin).2 f3]
      · have hyn := hf.cls _ hc y hy
        rw [has_at htl hk, hyn.w hn, (hasL_in hn hyn.neg).2 (f4 y hy hne)]
theorem same_length {a b : List Int} (ha : a.Nodup) (hb : b.Nodup) (h : ∀ x, x ∈ a ↔ x ∈ b) : a.length = b.length :=
  Nat.le_antisymm (nodup_le ha (fun x hx => (h x).1 hx)) (nodup_le hb (fun x hx => (h x).2 hx))
theorem Sim.mem {N : Int} {L Ls : List (List Int)} {Br : Bool} (S : Sim E N L Ls Br) (hb : Br = false) (x : Int) : x ∈ Ls.flatten ↔ x ∈ E.tr := by
  rw [mem_flat]
  constructor
  · rintro ⟨k, l, hk, hx⟩
    obtain ⟨i, hi, _⟩ := (S.lev hb hk x).1 hx
    exact List.mem_of_getElem? hi
  · intro hx
    obtain ⟨i, hi⟩ := List.mem_iff_getElem?.1 hx
    have h1 := cnt_le E.st i
    have h2 := cnt_nn E.st i
    have hk : (cnt E.st i).toNat < Ls.length := by have := S.len; omega
    exact ⟨_, _, List.getElem?_eq_getElem hk, (S.lev hb (List.getElem?_eq_getElem hk) x).2 ⟨i, hi, by omega⟩⟩
theorem like_ok {N : Int} {L Ls : List (List Int)} {Br : Bool} (S : Sim E N L Ls Br) (hst : E.st.length < 1000000) {k : Nat} (hk : 5000 ≤ k) : LikeP k E N L Ls Br (lvOf E.st) := by
  have hw := S.well
  have hf := hw.fine
  have hn := hf.n0
  have hs := hf.short
  have hN := S.n
  have hL := S.cls
  subst hN hL
  have hfl := lits_short hn.2 S.rin S.rnd
  refine { short := by omega, n := ⟨hn.1, by omega⟩, br := S.br.symm, lev := S.len, each := fun hb j l hj x hx => ?_, sum := by omega, all := fun hb => same_length S.rnd hf.nd (S.mem hb), vars := fun v h1 h2 => ?_, lvs := fun i => ?_, lv0 := ?_, lv1 := ?_, why := why_ok hw hk S.neat, bad := ?_ }
  · obtain ⟨i, hi, hcnt⟩ := (S.lev hb hj x).1 hx
    have hxm : x ∈ E.tr := List.mem_of_getElem? hi
    have hin := hf.tr x hxm
    obtain ⟨why, hms, _⟩ := hw.just i x hi
    have hmk := hf.mark2 hxm
    rw [hms] at hmk
    refine ⟨hin.wf hn.2, by rw [has_at (by omega) hk, (hasL_in hn.2 hin).2 hxm], by rw [hf.val hin, if_pos hxm], ?_, _, r17_Of_eq (hin.i64 hn.2) (hin.isL hn.2), hin.nabs hn.2, ?_⟩
    · rw [hin.w hn.2, hf.val hin.neg, if_neg (hf.con x hxm), Int.neg_neg, if_pos hxm]
    · unfold Eng.level; rw [hmk]; exact hcnt
  · refine ⟨_, _, has_at (by omega) hk, has_at (by omega) hk, fun hv => ?_, fun hv => ?_⟩
    · have hno : v ≤ 0 ∨ (E.ms v = none ∧ E.ms (wrap64 (-v)) = none) := by
        refine hv.imp id (fun hv => ?_)
        obtain ⟨q1, q2⟩ := Bool.or_eq_false_iff.1 hv
        constructor
        · cases hm : E.ms v with
          | none => rfl
          | some q =>
            have hm2 : v ∈ E.tr := (hf.mks v).1 (by rw [hm]; rfl)
            rw [(hasL_in hn.2 (hf.tr v hm2)).2 hm2] at q1; cases q1
        · cases hm : E.ms (wrap64 (-v)) with
          | none => rfl
          | some q =>
            have hm2 : wrap64 (-v) ∈ E.tr := (hf.mks _).1 (by rw [hm]; rfl)
            rw [(hasL_in hn.2 (hf.tr _ hm2)).2 hm2] at q2; cases q2
      have hmv : E.markV v = none := by
        unfold Eng.markV
        by_cases e : v ≤ 0
        · rw [if_pos e]
        · obtain ⟨m1, m2⟩ := hno.resolve_left e
          rw [if_neg e, if_neg (by rw [m1]; decide), m2]
      exact ⟨by unfold Eng.level; rw [hmv], by unfold Eng.why; rw [hmv]⟩
    · obtain ⟨q1, q2⟩ := Bool.or_eq_false_iff.1 hv
      have m1 : ¬ (E.ms v).isSome = true := fun hm => by
        have hm2 := (hf.mks v).1 hm
        rw [(hasL_in hn.2 (hf.tr v hm2)).2 hm2] at q1; cases q1
      have m2 : ¬ (E.ms (wrap64 (-v))).isSome = true := fun hm => by
        have hm2 := (hf.mks _).1 hm
        rw [(hasL_in hn.2 (hf.tr _ hm2)).2 hm2] at q2; cases q2
      unfold Eng.val
      rw [if_neg m1, if_neg m2]
  · unfold lvOf
    have := List.length_filter_le (fun a => decide (a < (i : Int))) E.st
    omega
  · unfold lvOf
    rw [List.filter_eq_nil_iff.2 (fun a ha => by have := hw.low a ha; simp; omega)]
    rfl
  · unfold lvOf
    rw [List.filter_eq_self.2 (fun a ha => by have := hw.low a ha; simp; omega)]
  · by_cases hb : E.br < 0
    · exact .inl hb
    · obtain ⟨b1, b2⟩ := hw.brk.2 (by omega)
      refine .inr ⟨by omega, by omega, fun y hy => ?_⟩
      have hyn := hf.cls _ (getD_mem b1) y hy
      rw [has_at (by omega) hk, hyn.w hn.2, (hasL_in hn.2 hyn.neg).2 (b2 y hy)]
end
theorem Tells.same {α : Type} {g : Nat → Option α} {u v : α} (h : Tells g u) (k : Tells g v) : u = v := by
  obtain ⟨a, h⟩ := h
  obtain ⟨b, k⟩ := k
  have h1 := h (a + b) (by omega)
  have k1 := k (a + b) (by omega)
  rw [h1] at k1
  exact Option.some.inj k1
structure KeptP (m : Nat) (E : Eng) : Prop where
  ws : E.ws + 64 * m < 4398046511104
  st : E.st.length + m ≤ 90000
  cl : E.cls.length ≤ 5000
section
variable {E : Eng} {N : Int} {L Ls : List (List Int)} {Br : Bool}
theorem Sim.on (S : Sim E N L Ls Br) {C Ws : List (List Int)} (hC : ∀ c ∈ C, (∀ x ∈ c, InN N x) ∧ c.Nodup) (hlen : C.length < 100000) (hne : Ws ≠ []) (hws : Ws.length < 100000) (hcon : Cons Ws.flatten) (hnd : Ws.flatten.Nodup) (hin : ∀ x ∈ Ws.flatten, InN N x) :
    ∃ Ls' b, Tells (fun k => sequiturref20_On.f k N C Ws false) (N, C, Ls', b) ∧ Goes C Ws Ls' b ∧ ∀ x ∈ Ls'.flatten, InN N x := by
  have hn := S.well.fine.n0
  rw [← S.n] at hn
  have hs := lits_short hn.2 hin hnd
  exact onM N hn hne hws (by omega) (fun c hc => ⟨(hC c hc).1, (hC c hc).2, by have := lits_short hn.2 (hC c hc).1 (hC c hc).2; omega⟩) (by omega) hcon hnd hin
theorem Sim.cl (S : Sim E N L Ls Br) : ∀ c ∈ L, (∀ x ∈ c, InN N x) ∧ c.Nodup := fun c hc => by
  rw [S.cls] at hc
  rw [S.n]
  exact ⟨S.well.fine.cls c hc, S.neat c hc⟩
theorem Sim.rows (S : Sim E N L Ls Br) : ∀ R ∈ Ls, R.length < 4611686018427387904 := fun R hR => by
  have hn := S.well.fine.n0
  rw [← S.n] at hn
  have hs := lits_short hn.2 S.rin S.rnd
  have h1 : R.length ≤ Ls.flatten.length := flat_len_mem hR
  omega
theorem Sim.ne (S : Sim E N L Ls Br) : Ls ≠ [] := fun e => by have := S.len; rw [e] at this; simp at this
theorem Sim.val (S : Sim E N L Ls Br) (hb : Br = false) {x : Int} (hx : InN E.n x) : valM Ls.flatten x = E.val x := by
  rw [S.well.fine.val hx]
  unfold valM
  by_cases h : x ∈ E.tr
  · rw [if_pos h, if_pos ((S.mem hb x).2 h)]
  · rw [if_neg h, if_neg (fun q => h ((S.mem hb x).1 q))]
    by_cases h2 : -x ∈ E.tr
    · rw [if_pos h2, if_pos ((S.mem hb _).2 h2)]
    · rw [if_neg h2, if_neg (fun q => h2 ((S.mem hb _).1 q))]
theorem play_push {m : Nat} (S : Sim E N L Ls Br) (K : KeptP (m + 1) E) {x : Int} (hx : I64 x) :
    ∃ E2 Ls2 Br2 r, Tells (fun k => Eng.push k E x) (E2, r) ∧ Tells (fun k => sequiturref20_Push.f k N L Ls Br x) (N, L, Ls2, Br2, r) ∧ Sim E2 N L Ls2 Br2 ∧ KeptP m E2 := by
  have hf := S.well.fine
  have hn := hf.n0
  have hN := S.n
  obtain ⟨k1, k2, k3⟩ := K
  have same : KeptP m E := ⟨by omega, by omega, k3⟩
  obtain ⟨E', b, t, f, g1, g2⟩ := push_tells hf hx (by omega)
  have hbr := S.br
  cases hB : Br with
  | true =>
    rw [hB] at hbr S
    have hge : 0 ≤ E.br := of_decide_eq_true hbr.symm
    have hbf : b = false := by
      cases hb : b with
      | false => rfl
      | true => have := (g2 hb).2.1; omega
    subst hbf
    have he := (g1 rfl).1
    subst he
    refine ⟨E', Ls, true, false, t, ?_, S, same⟩
    unfold sequiturref20_Push.f
    exact Tells.pos rfl (Tells.const _)
  | false =>
    rw [hB] at hbr S
    have hlt : E.br < 0 := by have := of_decide_eq_false hbr.symm; omega
    have hR := r17_Right_tells [x] N (fun l hl => by rw [List.mem_singleton.1 hl]; exact hx) (by rw [hN]; exact I64n hf) (by simp)
    by_cases hi : InN E.n x
    · have hi2 : InN N x := by rw [hN]; exact hi
      have hV := valueM (n := N) (by omega) N L false hi2 (Ls := Ls) (by have := S.len; omega) S.rows S.rcon
      rw [S.val rfl hi] at hV
      have hC0 : clauseErr [x] N = 0 := (clauseErr_one N x).2 hi2
      by_cases hv : E.val x = 0
      · have hbt : b = true := by
          cases hb : b with
          | true => rfl
          | false => rcases (g1 hb).2 with q | q | q
                     · omega
                     · exact absurd hi q
                     · exact absurd hv q
        subst hbt
        obtain ⟨c1, c2, c3, c4, c5⟩ := g2 rfl
        obtain ⟨k, hk⟩ := t.ex
        have hop := hf.open_iff hi hv
        have hfl : (Ls ++ [[x]]).flatten = Ls.flatten ++ [x] := by rw [List.flatten_append]; simp
        have hmem := S.mem rfl
        obtain ⟨Ls', b', hT, hg, hin⟩ := S.on S.cl (Ws := Ls ++ [[x]]) (by rw [S.cls]; omega) (by simp) (by rw [List.length_append, S.len, List.length_singleton]; omega)
          (by
            rw [hfl]
            intro y hy hny
            rcases List.mem_append.1 hy with a | a <;> rcases List.mem_append.1 hny with c | c
            · exact S.rcon y a c
            · have e := List.mem_singleton.1 c
              exact hop.2 ((hmem _).1 (by rw [← e, Int.neg_neg]; exact a))
            · rw [List.mem_singleton.1 a] at c
              exact hop.2 ((hmem _).1 c)
            · have e1 := List.mem_singleton.1 a
              have e2 := List.mem_singleton.1 c
              have := hi.1
              omega)
          (by
            rw [hfl]
            refine List.nodup_append.2 ⟨S.rnd, by simp, fun y hy z hz e => ?_⟩
            rw [List.mem_singleton.1 hz] at e
            exact hop.1 ((hmem _).1 (e ▸ hy)))
          (fun y hy => by
            rw [hfl] at hy
            rcases List.mem_append.1 hy with a | a
            · exact S.rin y a
            · rw [List.mem_singleton.1 a]; exact hi2)
        refine ⟨E', Ls', b', true, t, ?_, sim_push S hi hk hin hg, ?_⟩
        · unfold sequiturref20_Push.f
          refine Tells.neg (by decide) (Tells.bind hR (Tells.pos hC0 (Tells.bind hV (Tells.pos hv (Tells.pos (by rw [List.length_nil, Nat.zero_add, S.len]; omega) (Tells.bind (Tells.const _) (Tells.pos (by rw [List.nil_append, S.len]; omega) ?_)))))))
          rw [List.nil_append]
          exact Tells.bind hT (Tells.const _)
        · have est : E'.st = E.st ++ [(E.tr.length : Int)] := c5.st
          exact ⟨by rw [c5.ws]; show E.ws + 64 * m < _; omega, by rw [est, List.length_append, List.length_singleton]; omega, by rw [show E'.cls = E.cls from c5.cls]; exact k3⟩
      · have hbf : b = false := by
          cases hb : b with
          | false => rfl
          | true => exact absurd (g2 hb).2.2.1 hv
        subst hbf
        have he := (g1 rfl).1
        subst he
        refine ⟨E', Ls, false, false, t, ?_, S, same⟩
        unfold sequiturref20_Push.f
        exact Tells.neg (by decide) (Tells.bind hR (Tells.pos hC0 (Tells.bind hV (Tells.neg hv (Tells.const _)))))
    · have hbf : b = false := by
        cases hb : b with
        | false => rfl
        | true => exact absurd (g2 hb).1 hi
      subst hbf
      have he := (g1 rfl).1
      subst he
      refine ⟨E', Ls, false, false, t, ?_, S, same⟩
      unfold sequiturref20_Push.f
      exact Tells.neg (by decide) (Tells.bind hR (Tells.neg (fun q => hi (by rw [← hN]; exact (clauseErr_one N x).1 q)) (Tells.const _)))
theorem drop_flat {Ls : List (List Int)} (x : Int) (h : x ∈ Ls.dropLast.flatten) : x ∈ Ls.flatten := by
  obtain ⟨c, hc, hx⟩ := List.mem_flatten.1 h
  exact List.mem_flatten.2 ⟨c, (List.dropLast_sublist Ls).subset hc, hx⟩
theorem play_pop {m : Nat} (S : Sim E N L Ls Br) (K : KeptP (m + 1) E) :
    ∃ E2 Ls2 Br2 r, Tells (fun k => Eng.pop k E) (E2, r) ∧ Tells (fun k => sequiturref20_Pop.f k N L Ls Br) (N, L, Ls2, Br2, r) ∧ Sim E2 N L Ls2 Br2 ∧ KeptP m E2 := by
  have hf := S.well.fine
  obtain ⟨k1, k2, k3⟩ := K
  have hlen := S.len
  obtain ⟨E', b, t, f, g1, g2⟩ := pop_tells hf (fun a ha => by have := S.well.low a ha; omega)
  cases b with
  | false =>
    obtain ⟨e1, e2⟩ := g1 rfl
    subst e1
    refine ⟨E', Ls, Br, false, t, ?_, S, ⟨by omega, by omega, k3⟩⟩
    unfold sequiturref20_Pop.f
    exact Tells.pos (by rw [hlen, e2]; decide) (Tells.const _)
  | true =>
    obtain ⟨ss, a, e1, e2⟩ := g2 rfl
    obtain ⟨k, hk⟩ := t.ex
    have hl2 : Ls.length = ss.length + 2 := by rw [hlen, e1, List.length_append, List.length_singleton]
    have hdl : Ls.dropLast.length = ss.length + 1 := by rw [List.length_dropLast, hl2]; omega
    have hdn : Ls.dropLast.flatten.Nodup := by
      have e := congrArg List.flatten (List.dropLast_concat_getLast S.ne)
      rw [List.flatten_append] at e
      have h := S.rnd
      rw [← e] at h
      exact (List.nodup_append.1 h).1
    obtain ⟨Ls', b', hT, hg, hin⟩ := S.on S.cl (Ws := Ls.dropLast) (by rw [S.cls]; omega) (fun e => by rw [e] at hdl; simp at hdl) (by rw [hdl]; rw [e1, List.length_append] at k2; omega)
      (fun y hy hny => S.rcon y (drop_flat y hy) (drop_flat _ hny)) hdn (fun y hy => S.rin y (drop_flat y hy))
    obtain ⟨s1, s2, s3, s4, s5, s6, s7, s8⟩ := E.dels_same (E.tr.drop a.toNat)
    have est : E'.st = E.st.dropLast := e2.st
    refine ⟨E', Ls', b', true, t, ?_, sim_pop S hk hin hg, ⟨?_, ?_, ?_⟩⟩
    · unfold sequiturref20_Pop.f
      have hw : wrap64 ((Ls.length : Int) - 1) = ((Ls.length - 1 : Nat) : Int) := by unfold wrap64; omega
      refine Tells.neg (by rw [hl2]; omega) ?_
      rw [hw]
      refine Tells.pos (by omega) (Tells.pos (by omega) ?_)
      rw [Int.toNat_natCast, show Ls.take (Ls.length - 1) = Ls.dropLast from (List.dropLast_eq_take).symm]
      exact Tells.bind hT (Tells.const _)
    · rw [e2.ws, show (E.popped a.toNat).ws = E.ws from s6]; omega
    · rw [est, List.length_dropLast]; omega
    · rw [e2.cls, show (E.popped a.toNat).cls = E.cls from s1]; exact k3
theorem play_add {m : Nat} (S : Sim E N L Ls Br) (K : KeptP (m + 1) E) {c : List Int} (hc : ∀ x ∈ c, I64 x) (hcs : c.length ≤ 70) :
    ∃ E2 L2 Ls2 Br2 f, Tells (fun k => Eng.add k E c) (E2, f) ∧ Tells (fun k => sequiturref20_Add.f k N L Ls Br c) (N, L2, Ls2, Br2, f) ∧ Sim E2 N L2 Ls2 Br2 ∧ KeptP m E2 := by
  have hf := S.well.fine
  have hN := S.n
  have hL := S.cls
  obtain ⟨k1, k2, k3⟩ := K
  have same : KeptP m E := ⟨by omega, by omega, k3⟩
  have hI := I64n hf
  have hlr := lit_Right_tells c E.n hc hI (by omega)
  have hrr := r17_Right_tells c N hc (by rw [hN]; exact hI) (by omega)
  by_cases h0 : clauseErr c E.n = 0
  case neg =>
    refine ⟨E, L, Ls, Br, clauseErr c E.n, ?_, ?_, S, same⟩
    · unfold Eng.add
      exact Tells.bind hlr (Tells.pos h0 (Tells.const _))
    · unfold sequiturref20_Add.f
      rw [hN] at hrr ⊢
      exact Tells.bind hrr (Tells.neg h0 (Tells.const _))
  by_cases h1 : E.cls.length ≥ 4096
  · refine ⟨E, L, Ls, Br, 2, ?_, ?_, S, same⟩
    · unfold Eng.add
      exact Tells.bind hlr (Tells.neg (fun q => q h0) (Tells.pos h1 (Tells.const _)))
    · unfold sequiturref20_Add.f
      rw [hN] at hrr ⊢
      exact Tells.bind hrr (Tells.pos h0 (Tells.pos (by rw [hL]; omega) (Tells.const _)))
  obtain ⟨E', f, t, ff, g1, g2⟩ := add_tells hf hc (by omega) (by omega)
  have hcl := lit_Clean_eq c hc (by omega)
  have hf0 : f = 0 := by
    obtain ⟨a, ha⟩ := t
    obtain ⟨b, hb⟩ := hlr
    have h := ha (a + b) (by omega)
    have h : Eng.add (a + b) E c = some (E', f) := h
    unfold Eng.add at h
    rw [show lit_Right.f (a + b) c E.n = some (clauseErr c E.n) from hb _ (by omega), Option.bind_some, if_neg (fun q => q h0), if_neg h1, hcl, Option.bind_some] at h
    split at h
    · split at h
      · obtain ⟨_, _, h⟩ := Option.bind_eq_some_iff.1 h
        injection h with h
        injection h with _ h
        exact h.symm
      · injection h with h
        injection h with _ h
        exact h.symm
    · cases h
  subst hf0
  obtain ⟨⟨c1, c2⟩, c3, c4⟩ := g2 rfl
  obtain ⟨k, hk⟩ := t.ex
  obtain ⟨l1, l2, l3, l4, l5, l6, l7⟩ := E.laid_same (cleanL c)
  have hcn := cleanL_length c
  have hkept : KeptP m E' := ⟨by rw [c4.ws, l7]; omega, by rw [c4.st, l4]; omega, by rw [c4.cls, l3, List.length_append, List.length_singleton]; omega⟩
  obtain ⟨sa, sb⟩ := sim_add (k := k) (c := c) S c1 c2 hk (Ls' := Ls) (b := false)
  have hrc := r17_Clean_tells c hc (by omega)
  have hLl : L.length < 5000 := by rw [hL]; omega
  cases hB : Br with
  | true =>
    refine ⟨E', L ++ [cleanL c], Ls, true, 0, t, ?_, sa hB, hkept⟩
    unfold sequiturref20_Add.f
    rw [hN] at hrr ⊢
    refine Tells.bind hrr (Tells.pos h0 (Tells.neg (by rw [hL]; omega) (Tells.bind hrc (Tells.pos (by rw [List.length_nil]; omega) (Tells.bind (Tells.const _) (Tells.pos (by rw [List.nil_append]; omega) (Tells.bind (Tells.const _) (Tells.pos rfl ?_))))))))
    rw [List.nil_append]
    exact Tells.const _
  | false =>
    obtain ⟨Ls', b', hT, hg, hin⟩ := S.on (C := L ++ [cleanL c]) (Ws := Ls) (fun d hd => by
      rcases List.mem_append.1 hd with h | h
      · exact S.cl d h
      · rw [List.mem_singleton.1 h]
        exact ⟨fun x hx => by rw [hN]; exact cleanL_InN c1 x hx, cleanL_nodup c⟩) (by rw [List.length_append, List.length_singleton]; omega) S.ne (by rw [S.len]; omega) S.rcon S.rnd S.rin
    refine ⟨E', L ++ [cleanL c], Ls', b', 0, t, ?_, (sim_add (k := k) (c := c) S c1 c2 hk).2 hB hin hg, hkept⟩
    unfold sequiturref20_Add.f
    rw [hN] at hrr hT ⊢
    refine Tells.bind hrr (Tells.pos h0 (Tells.neg (by rw [hL]; omega) (Tells.bind hrc (Tells.pos (by rw [List.length_nil]; omega) (Tells.bind (Tells.const _) (Tells.pos (by rw [List.nil_append]; omega) (Tells.bind (Tells.const _) (Tells.neg (by decide) ?_))))))))
    rw [List.nil_append]
    exact Tells.bind hT (Tells.const _)
theorem play_act {m : Nat} (S : Sim E N L Ls Br) (K : KeptP (m + 1) E) (x : S39) (hx : I64 x.f1) (hl : x.f2.length ≤ 70) (hr : ∀ y ∈ x.f2, I64 y) :
    ∃ E2 L2 Ls2 Br2 r f, Tells (fun k => Eng.act k E x.f0 x.f1 x.f2) (E2, r, f) ∧ Tells (fun k => sequiturlaw20_model.f k N L Ls Br x.f0 x.f1 x.f2) (N, L2, Ls2, Br2, r, f) ∧ Sim E2 N L2 Ls2 Br2 ∧ KeptP m E2 := by
  unfold sequiturlaw20_model.f
  by_cases c1 : x.f0 = 1
  · obtain ⟨E2, Ls2, Br2, r, ⟨a, t⟩, u, S2, K2⟩ := play_pop S K
    refine ⟨E2, L, Ls2, Br2, r, 0, ⟨a, fun k hk => ?_⟩, Tells.pos c1 (Tells.bind u (Tells.const _)), S2, K2⟩
    show Eng.act k E x.f0 x.f1 x.f2 = _
    unfold Eng.act
    rw [if_pos c1, show Eng.pop k E = some (E2, r) from t k hk]; rfl
  · by_cases c2 : x.f0 = 2
    · obtain ⟨E2, L2, Ls2, Br2, f, ⟨a, t⟩, u, S2, K2⟩ := play_add S K hr hl
      refine ⟨E2, L2, Ls2, Br2, decide (f = 0), f, ⟨a, fun k hk => ?_⟩, ?_, S2, K2⟩
      · show Eng.act k E x.f0 x.f1 x.f2 = _
        unfold Eng.act
        rw [if_neg c1, if_pos c2, show Eng.add k E x.f2 = some (E2, f) from t k hk]; rfl
      · refine Tells.neg c1 (Tells.pos c2 (Tells.bind u ?_))
        rw [show decide (f = 0) = (f == 0) by by_cases e : f = 0 <;> simp [e]]
        exact Tells.const _
    · obtain ⟨E2, Ls2, Br2, r, ⟨a, t⟩, u, S2, K2⟩ := play_push S K hx
      refine ⟨E2, L, Ls2, Br2, r, 0, ⟨a, fun k hk => ?_⟩, Tells.neg c1 (Tells.neg c2 (Tells.bind u (Tells.const _))), S2, K2⟩
      show Eng.act k E x.f0 x.f1 x.f2 = _
      unfold Eng.act
      rw [if_neg c1, if_neg c2, show Eng.push k E x.f1 = some (E2, r) from t k hk]; rfl
end
theorem rdT20_at (xs : List S39) (i : Nat) (h : i < xs.length) : rd_T39 xs (i : Int) = xs[i] := by simp [rd_T39, h]
theorem few20_l1 (log : List S39) (hs : log.length < 4611686018427387904) : ∀ (m i : Nat), m + i = log.length →
    ∃ b, Tells (fun k => sequiturlaw20_Few.l1 k log (log.length : Int) (i : Int)) b ∧ (b = true → ∀ x ∈ log.drop i, x.f2.length ≤ 70)
  | 0, i, h => ⟨true, Tells.succ (fun k => by rw [sequiturlaw20_Few.l1]) (Tells.neg (by omega) (Tells.const _)), fun _ x hx => by
      rw [List.drop_of_length_le (by omega)] at hx; cases hx⟩
  | m + 1, i, h => by
    have hi : i < log.length := by omega
    by_cases hb : ((log[i].f2.length : Nat) : Int) > 70
    · refine ⟨false, Tells.succ (fun k => by rw [sequiturlaw20_Few.l1]) (Tells.pos (by omega) (Tells.pos (by omega) (Tells.pos (by omega) ?_))), fun h => by cases h⟩
      rw [rdT20_at _ _ hi]
      exact Tells.pos hb (Tells.const _)
    · obtain ⟨b, hT, hh⟩ := few20_l1 log hs m (i + 1) (by omega)
      refine ⟨b, Tells.succ (fun k => by rw [sequiturlaw20_Few.l1]) (Tells.pos (by omega) (Tells.pos (by omega) (Tells.pos (by omega) ?_))), fun e x hx => ?_⟩
      · rw [rdT20_at _ _ hi, w64s hi hs]
        exact Tells.neg hb hT
      · rw [List.drop_eq_getElem_cons hi] at hx
        rcases List.mem_cons.1 hx with rfl | hx
        · omega
        · exact hh e x hx
theorem few20_l0 (l : List (List Int)) (log : List S39) (hl : l.length < 4611686018427387904) (hs : log.length < 4611686018427387904) : ∀ (m i : Nat), m + i = l.length →
    ∃ b, Tells (fun k => sequiturlaw20_Few.l0 k log l (l.length : Int) (i : Int)) b ∧ (b = true → (∀ c ∈ l.drop i, c.length ≤ 70) ∧ ∀ x ∈ log, x.f2.length ≤ 70)
  | 0, i, h => by
    obtain ⟨b, hT, hh⟩ : ∃ b, Tells (fun k => sequiturlaw20_Few.l1 k log (log.length : Int) 0) b ∧ (b = true → ∀ x ∈ log, x.f2.length ≤ 70) := few20_l1 log hs log.length 0 rfl
    refine ⟨b, Tells.succ (fun k => by rw [sequiturlaw20_Few.l0]) (Tells.neg (by omega) hT), fun e => ⟨fun c hc => ?_, hh e⟩⟩
    rw [List.drop_of_length_le (by omega)] at hc; cases hc
  | m + 1, i, h => by
    have hi : i < l.length := by omega
    by_cases hb : ((l[i].length : Nat) : Int) > 70
    · refine ⟨false, Tells.succ (fun k => by rw [sequiturlaw20_Few.l0]) (Tells.pos (by omega) (Tells.pos (by omega) (Tells.pos (by omega) ?_))), fun h => by cases h⟩
      rw [rdL_at _ _ hi]
      exact Tells.pos hb (Tells.const _)
    · obtain ⟨b, hT, hh⟩ := few20_l0 l log hl hs m (i + 1) (by omega)
      refine ⟨b, Tells.succ (fun k => by rw [sequiturlaw20_Few.l0]) (Tells.pos (by omega) (Tells.pos (by omega) (Tells.pos (by omega) ?_))), fun e => ⟨fun x hx => ?_, (hh e).2⟩⟩
      · rw [rdL_at _ _ hi, w64s hi hl]
        exact Tells.neg hb hT
      · rw [List.drop_eq_getElem_cons hi] at hx
        rcases List.mem_cons.1 hx with rfl | hx
        · omega
        · exact (hh e).1 x hx
theorem few20_tells (n : Int) (l : List (List Int)) (log : List S39) (hl : l.length < 4611686018427387904) (hs : log.length < 4611686018427387904) :
    ∃ b, Tells (fun k => sequiturlaw20_Few.f k n l log) b ∧ (b = true → n ≤ 40 ∧ l.length ≤ 60 ∧ log.length ≤ 40 ∧ (∀ c ∈ l, c.length ≤ 70) ∧ ∀ x ∈ log, x.f2.length ≤ 70) := by
  unfold sequiturlaw20_Few.f
  have no : Tells (fun k => sequiturlaw20_Few.j0 k log true n l) false := Tells.succ (fun k => by rw [sequiturlaw20_Few.j0]) (Tells.pos rfl (Tells.const _))
  by_cases h1 : n > 40
  · exact ⟨false, Tells.pos h1 no, fun h => by cases h⟩
  by_cases h2 : (l.length : Int) > 60
  · exact ⟨false, Tells.neg h1 (Tells.pos h2 no), fun h => by cases h⟩
  by_cases h3 : (log.length : Int) > 40
  · refine ⟨false, Tells.neg h1 (Tells.neg h2 ?_), fun h => by cases h⟩
    rw [decide_eq_true h3]; exact no
  obtain ⟨b, hT, hh⟩ : ∃ b, Tells (fun k => sequiturlaw20_Few.l0 k log l (l.length : Int) 0) b ∧ (b = true → (∀ c ∈ l, c.length ≤ 70) ∧ ∀ x ∈ log, x.f2.length ≤ 70) := few20_l0 l log hl hs l.length 0 rfl
  refine ⟨b, Tells.neg h1 (Tells.neg h2 ?_), fun e => ⟨by omega, by omega, by omega, (hh e).1, (hh e).2⟩⟩
  rw [decide_eq_false h3]
  exact Tells.succ (fun k => by rw [sequiturlaw20_Few.j0]) (Tells.neg (by decide) hT)
theorem r20_Right_loop (l : List (List Int)) (n : Int) (hl : Rows64 l) (hn : I64 n) : ∀ (m i : Nat), m + i = l.length →
    Tells (fun k => sequiturref20_Right.l0 k (i : Int) n l) (clausesErr n (l.drop i))
  | 0, i, h => by
    refine Tells.succ (fun k => by rw [sequiturref20_Right.l0]) (Tells.neg (by omega) ?_)
    rw [List.drop_of_length_le (by omega)]; exact Tells.const _
  | m + 1, i, h => by
    have hi : i < l.length := by omega
    have hc := hl.2 _ (List.getElem_mem hi)
    have hR := r17_Right_tells l[i] n hc.2 hn hc.1
    rw [List.drop_eq_getElem_cons hi, clausesErr]
    refine Tells.succ (fun k => by rw [sequiturref20_Right.l0]) (Tells.pos (by omega) (Tells.pos (by omega) ?_))
    rw [rdL_at _ _ hi, w64s hi hl.1]
    refine Tells.bind hR ?_
    by_cases hz : clauseErr l[i] n = 0
    · refine Tells.pos hz ?_
      rw [if_pos hz]; exact r20_Right_loop l n hl hn m (i + 1) (by omega)
    · refine Tells.neg hz ?_
      rw [if_neg hz]; exact Tells.const _
theorem r20_Right_tells (n : Int) (l : List (List Int)) (hl : Rows64 l) (hn : I64 n) : Tells (fun k => sequiturref20_Right.f k n l) (setErr n l) := by
  unfold sequiturref20_Right.f setErr
  have stop : Tells (fun k => sequiturref20_Right.j0 k true n l) 1 := Tells.succ (fun k => by rw [sequiturref20_Right.j0]) (Tells.pos rfl (Tells.const _))
  by_cases h0 : n < 0
  · rw [if_pos (by omega)]
    exact Tells.pos h0 stop
  refine Tells.neg h0 ?_
  by_cases h1 : n > 1024
  · rw [if_pos (by omega), decide_eq_true h1]; exact stop
  rw [if_neg (by omega), decide_eq_false h1]
  refine Tells.succ (fun k => by rw [sequiturref20_Right.j0]) (Tells.neg (by decide) ?_)
  by_cases h2 : l.length > 4096
  · rw [if_pos h2]
    exact Tells.pos (by omega) (Tells.const _)
  · rw [if_neg h2]
    exact Tells.neg (by omega) (r20_Right_loop l n hl hn l.length 0 rfl)
theorem play_acts : ∀ (l : List S39) {E : Eng} {N : Int} {L Ls : List (List Int)} {Br : Bool}, Sim E N L Ls Br → KeptP l.length E → (∀ x ∈ l, I64 x.f1 ∧ x.f2.length ≤ 70 ∧ ∀ y ∈ x.f2, I64 y) → ∃ K, ∀ k, K ≤ k → up20Acts k l E N L Ls Br
  | [], _, _, _, _, _, _, _, _ => ⟨0, fun _ _ => trivial⟩
  | x :: l, E, N, L, Ls, Br, S, K, hl => by
    obtain ⟨x1, x2, x3⟩ := hl x (by simp)
    obtain ⟨E2, L2, Ls2, Br2, r, f, ⟨K1, t1⟩, ⟨K2, t2⟩, S2, k2⟩ := play_act S K x x1 x2 x3
    obtain ⟨K3, t3⟩ := play_acts l S2 k2 (fun y hy => hl y (List.mem_cons_of_mem _ hy))
    have hf := S.well.fine
    refine ⟨K1 + K2 + K3 + 5000, fun k hk => ⟨hf.lits, fun y hy => (hf.tr y hy).wf hf.n0.2, x1, fun q hq y hy => ?_, E2, N, L2, Ls2, Br2, r, f, _, t1 k (by omega), t2 k (by omega), like_ok S2 (by have := k2.st; omega) (by omega), t3 k (by omega)⟩⟩
    rw [lit_Clean_eq x.f2 x3 (by omega)] at hq
    injection hq with hq
    rw [← hq] at hy
    exact x3 y (cleanL_mem.1 hy).1
theorem rnew_loop (n : Int) (l : List (List Int)) (hl : Rows64 l) (hc : ∀ c ∈ l, c.length ≤ 70) {v : Int × List (List Int) × List (List Int) × Bool} (H : Tells (fun k => sequiturref20_On.f k n (l.map cleanL) [[]] false) v) (hs : l.length < 100000) : ∀ (m i : Nat), m + i = l.length →
    Tells (fun k => sequiturref20_New.l0 k (i : Int) n l n ((l.take i).map cleanL) [[]] false) v
  | 0, i, h => by
    refine Tells.succ (fun k => by rw [sequiturref20_New.l0]) (Tells.neg (by omega) ?_)
    rw [List.take_of_length_le (by omega)]
    exact Tells.bind H (Tells.const _)
  | m + 1, i, h => by
    have hi : i < l.length := by omega
    have hm := List.getElem_mem hi
    have ih := rnew_loop n l hl hc H hs m (i + 1) (by omega)
    rw [List.take_add_one, List.getElem?_eq_getElem hi, Option.toList_some, List.map_append] at ih
    refine Tells.succ (fun k => by rw [sequiturref20_New.l0]) (Tells.pos (by omega) (Tells.pos (by omega) ?_))
    rw [rdL_at _ _ hi, w64s hi (by omega)]
    exact Tells.bind (r17_Clean_tells l[i] (hl.2 _ hm).2 (by have := hc _ hm; omega)) (Tells.pos (by rw [List.length_map, List.length_take]; omega) ih)
end Go.Proofs.Ytkmlekfmccghjaa.Pu
namespace Go.Proofs.Ytkmlekfmccghjaa.Pure
open Go.Proofs.Ytkmlekfmccghjaa.Pu Go.Proofs.Ytkmlekfmccghjaa.P
theorem UnitPlays (n : Int) (l : List (List Int)) (acts : List S39) (hn : (Lit.int .i64 n).wf = true) (hl : Open.Row 24 (Open.Row 8 fun n => (Lit.int .i64 n).wf = true) l) (ha : ActsRow acts) : ∃ k, sequiturlaw20_UnitPlays.Fact k n l acts := by
  have hl' := rows64 hl
  have ha' := acts64 ha
  obtain ⟨fw, ⟨K1, t1⟩, hf⟩ := few20_tells n l acts hl'.1 ha'.1
  cases fw with
  | false => exact ⟨40 + K1, alive_from _ (by omega), false, t1 _ (by omega), (fun h => by cases h)⟩
  | true =>
    obtain ⟨f1, f2, f3, f4, f5⟩ := hf rfl
    obtain ⟨y, ⟨K2, t2⟩⟩ := cnf_Right_tells n l hl' hn
    obtain ⟨K5, t5⟩ := r20_Right_tells n l hl' hn
    by_cases he : setErr n l = 0
    · obtain ⟨E0, E, ⟨K3, t3⟩, g, e1, e2, e3, e4, e5, e6, e7⟩ := new_tells hn hl' he
      obtain ⟨s1, s2, s3⟩ := setErr_InN he
      have hlc : ∀ c ∈ l, ∀ r, lit_Clean.f c = some r → ∀ x ∈ r.1, (Lit.int .i64 x).wf = true := fun c hc r hr y hy => by
        have h1 := f4 c hc
        rw [lit_Clean_eq c (hl'.2 c hc).2 (by omega)] at hr
        injection hr with hr
        rw [← hr] at hy
        exact (hl'.2 c hc).2 y (cleanL_mem.1 hy).1
      have hw : Well E := well_new (k := K2 + K3) he (fun r hr => by
        rw [show cnf_Right.f (K2 + K3) n l = some (y, setErr n l) from t2 _ (by omega)] at hr
        injection hr with hr
        rw [← hr]; exact he) (t3 _ (by omega))
      have hcls : E.cls = l.map cleanL := by rw [e7.cls, e5]
      have hneat : Neat E := fun c hc => by
        rw [hcls] at hc
        obtain ⟨d, _, rfl⟩ := List.mem_map.1 hc
        exact cleanL_nodup d
      have hEn : n = E.n := by rw [e7.n, e1]
      obtain ⟨Ls, b, hT, hg, hin⟩ := onM (n := n) (cls := l.map cleanL) (Ls := [[]]) n s1 (by simp) (by simp) (by rw [List.length_map]; omega) (fun c hc => by
        obtain ⟨d, hd, rfl⟩ := List.mem_map.1 hc
        exact ⟨cleanL_InN (s3 d hd).1, cleanL_nodup d, by have := cleanL_length d; have := (s3 d hd).2; omega⟩) (by simp) (fun x hx => by simp at hx) (by simp) (fun x hx => by simp at hx)
      have S : Sim E n (l.map cleanL) Ls b := sim_new hw hneat hEn hcls.symm (by rw [e7.st, e2]) hin hg
      have hR : Tells (fun k => sequiturref20_New.f k n l) (n, l.map cleanL, Ls, b) := by
        unfold sequiturref20_New.f
        exact rnew_loop n l hl' f4 hT (by omega) l.length 0 rfl
      obtain ⟨K6, t6⟩ := hR
      have hk : KeptP acts.length E := ⟨by rw [e7.ws]; omega, by rw [e7.st, e2, List.length_nil]; omega, by rw [hcls, List.length_map]; omega⟩
      obtain ⟨K4, t4⟩ := play_acts acts S hk (fun a h => ⟨(ha'.2 a h).1, f5 a h, (ha'.2 a h).2⟩)
      refine ⟨5000 + K1 + K2 + K3 + K4 + K5 + K6, alive_from _ (by omega), true, t1 _ (by omega), fun _ => ⟨y, setErr n l, t2 _ (by omega), t5 _ (by omega), fun _ => ⟨E, t3 _ (by omega), hlc, n, _, Ls, b, _, t6 _ (by omega), like_ok S (by rw [e7.st, e2, List.length_nil]; omega) (by omega), t4 _ (by omega)⟩⟩⟩
    · exact ⟨40 + K1 + K2 + K5, alive_from _ (by omega), true, t1 _ (by omega), fun _ => ⟨y, setErr n l, t2 _ (by omega), t5 _ (by omega), fun h => absurd h he⟩⟩
end Go.Proofs.Ytkmlekfmccghjaa.Pure
