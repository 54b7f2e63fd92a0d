import Derived.SizedLaws
import Derived.Deep.Slices
import Derived.WideShapes
import Derived.ChangeShapes
import Derived.ChangeMaps5
import Derived.Lib.SmallJoins
import Derived.ChangeSlices
import Derived.Laws.BitsLemmas
import Derived.Test.YtkmlekfmccghjaaKLearnUnit1
import Derived.Test.YtkmlekfmccghjaaKLearnUnit2
import Derived.Test.YtkmlekfmccghjaaKLearnUnit12
import Derived.Test.YtkmlekfmccghjaaKLearnUnit7
import Derived.Test.YtkmlekfmccghjaaKLearnUnit13
import Derived.Test.YtkmlekfmccghjaaKLearnUnit3
import Derived.Test.YtkmlekfmccghjaaKLearnUnit4
import Derived.Test.YtkmlekfmccghjaaKLearnUnit6
import Derived.Test.YtkmlekfmccghjaaKLearnUnit8
import Derived.Test.YtkmlekfmccghjaaKLearnUnit9
namespace Go.Proofs.Ytkmlekfmccghjaa.Open
open Go.RowKit Go.Proofs.YtkmlekfmccghjaaW.PrintWords Go.Proofs.YtkmlekfmccghjaaW.PrintLast Go.Proofs.YtkmlekfmccghjaaW.PrintMore Go.ChangeShapes Go.WideShapes Go.Deep
def Opens (P : Program) (t : TypeId) {α : Type} (d : Kd α) (good : α → Prop) : Prop :=
  ∀ {H : Type} (enc : TypeId × Value → H) (w : World) (fuel : Nat) (cs : List Value) (x : DataW H × List MemPlace),
    DataW.trod enc P w 0 (fun _ => true) true fuel t cs = some x → (∀ n ∈ DataW.weights P t x.1, n ≤ 140737488351232) → ∃ a, Kd.FK d w (fun _ => True) a cs ∧ good a
def Row (B : Nat) {α : Type} (good : α → Prop) (xs : List α) : Prop := xs.length * B ≤ 140737488351232 ∧ ∀ x ∈ xs, good x
def I64 (n : Int) : Prop := (Lit.int .i64 n).wf = true
variable {P : Program}
theorem cell_same {w W' : World} (hW : ∀ k, (fun _ => True) k → k < w.heap.size → W'.heap[k]? = w.heap[k]?) {p : Addr} {u : Value} (h : w.cell? p = some u) : W'.cell? p = some u := by
  have hlt : p.block < w.heap.size := by
    rcases Nat.lt_or_ge p.block w.heap.size with h1 | h1
    · exact h1
    · simp [World.cell?, Array.getElem?_eq_none h1] at h
  have hb : W'.heap[p.block]? = w.heap[p.block]? := hW _ trivial hlt
  unfold World.cell? at h ⊢
  rw [hb]; exact h
theorem int_ {t : TypeId} {k : IntKind} (ht : P.underlying t = some (.int k)) : Opens P t (Kd.int k) (fun n => (Lit.int k n).wf = true) := by
  intro H enc w fuel cs x h _
  obtain ⟨n, rfl, hx, hw⟩ := DataW.trod_int ht h
  exact ⟨n, fun _ _ => rfl, hw⟩
theorem mem_weightsAll {H : Type} {e : TypeId} {n : Nat} : ∀ {l : List (DataW H)} {d : DataW H}, d ∈ l → n ∈ DataW.weights P e d → n ∈ DataW.weightsAll P e l
  | [], _, h, _ => by cases h
  | y :: l, d, h, hn => by
    rw [DataW.weightsAll]
    rcases List.mem_cons.1 h with rfl | h
    · exact List.mem_append_left _ hn
    · exact List.mem_append_right _ (mem_weightsAll h hn)
theorem slice_ {t e : TypeId} {α : Type} {d : Kd α} {good : α → Prop} {B : Nat} (ht : P.underlying t = some (.slice e)) (hd : P.cellsOf e = d.sz) (hB : P.bytesOf e = B) (hB0 : 0 < B) (he : Opens P e d good) :
    Opens P t (Kd.slice e d) (Row B good) := by
  intro H enc w fuel cs x h hx
  rcases open_slice ht h with ⟨rfl, rfl⟩ | ⟨a, len, cap, m, n, D, Pl, rfl, _, hl, hm, hmm, rfl, hel⟩
  · exact ⟨[], fun _ _ => ⟨none, 0, rfl, Nat.le_refl _, rfl, Nat.zero_le _, fun h => absurd h (Nat.lt_irrefl 0)⟩, by simp, fun x hx => by cases hx⟩
  · simp only [if_true] at hmm
    obtain rfl : m = cap := hmm
    rw [hd] at hel
    have hw : ∀ i, i < len → ∀ q ∈ DataW.weights P e (D i), q ≤ 140737488351232 := fun i hi q hq => by
      refine hx q ?_
      show q ∈ DataW.weights P t (DataW.slice _ _)
      rw [DataW.weights, ht]
      exact List.mem_cons_of_mem _ (List.mem_append_left _ (mem_weightsAll (List.mem_map.2 ⟨i, List.mem_range.2 hi, rfl⟩) hq))
    have hlen : len * B ≤ 140737488351232 := by
      have := hx ((len + (m - len)) * B) (by
        show _ ∈ DataW.weights P t (DataW.slice _ _)
        rw [DataW.weights, ht]
        simp [hB])
      exact Nat.le_trans (Nat.mul_le_mul_right _ (by omega)) this
    have hlt : len ≤ 140737488351232 := Nat.le_trans (Nat.le_mul_of_pos_right _ hB0) hlen
    have each : ∀ i, i < len → ∃ y, (∃ cs', w.cells? 0 (a.add (i * d.sz)) d.sz = some cs' ∧ Kd.FK d w (fun _ => True) y cs') ∧ good y := fun i hi => by
      obtain ⟨cs', h1, h2⟩ := hel i (by omega)
      obtain ⟨y, hy, hg⟩ := he enc w n cs' (D i, Pl i) h2 (hw i hi)
      exact ⟨y, ⟨cs', h1, hy⟩, hg⟩
    have : ∃ xs : List α, xs.length = len ∧ ∀ i y, xs[i]? = some y → (∃ cs', w.cells? 0 (a.add (i * d.sz)) d.sz = some cs' ∧ Kd.FK d w (fun _ => True) y cs') ∧ good y := by
      clear hw hlen hlt hel hx h
      clear hl
      induction len with
      | zero => exact ⟨[], rfl, fun i y h => by simp at h⟩
      | succ j ih =>
        obtain ⟨xs, hxs, hk⟩ := ih (fun i hi => each i (by omega))
        obtain ⟨y, hy⟩ := each j (by omega)
        refine ⟨xs ++ [y], by simp [hxs], fun i z hz => ?_⟩
        rcases Nat.lt_or_ge i xs.length with hi | hi
        · rw [List.getElem?_append_left hi] at hz; exact hk i z hz
        · rw [List.getElem?_append_right hi] at hz
          have : i - xs.length = 0 := by
            rcases Nat.eq_zero_or_pos (i - xs.length) with h0 | h0
            · exact h0
            · rw [List.getElem?_eq_none (by simp; omega)] at hz; cases hz
          rw [this] at hz
          simp at hz
          subst hz
          obtain rfl : i = j := by omega
          exact hy
    obtain ⟨xs, hxs, hk⟩ := this
    refine ⟨xs, fun W' hW => ⟨some a, m, by rw [hxs], by omega, ⟨rfl, by omega, fun _ => ⟨a, rfl, fun j p hj => ?_⟩⟩⟩, by rw [hxs]; exact hlen, fun y hy => ?_⟩
    · obtain ⟨⟨cs', h1, h2⟩, _⟩ := hk j p hj
      obtain ⟨_, h3, h4⟩ := World.cells?_some h1
      refine ⟨cs', h3, h2 W' hW, fun i u hu => ?_⟩
      have hi : i < d.sz := by rw [← h3]; exact (List.getElem?_eq_some_iff.1 hu).1
      have hc := h4 i hi
      rw [hu] at hc
      rw [Addr.add_add] at hc
      exact cell_same hW hc
    · obtain ⟨i, hi, rfl⟩ := List.getElem_of_mem hy
      exact (hk i _ (List.getElem?_eq_getElem hi)).2
theorem slice_arg {H : Type} {enc : TypeId × Value → H} {w : World} {t e : TypeId} {α : Type} {d : Kd α} {good : List α → Prop} (ho : Opens P t (Kd.slice e d) good) {A : Option Addr} {len cap : Nat} {x : DataW H} {p : List MemPlace}
    (h : DataW.Trod enc P w 0 (fun _ => true) true t (.slice A len cap) x p) (hx : ∀ n ∈ DataW.weights P t x, n ≤ 140737488351232) :
    ∃ l : List α, len = l.length ∧ Kd.F d w (fun _ => True) A l.length l ∧ l.length ≤ cap ∧ good l := by
  obtain ⟨fuel, hf⟩ := h
  obtain ⟨l, hF, hg⟩ := ho enc w fuel _ _ hf hx
  obtain ⟨A', c, hcs, hl, hc⟩ := Kd.FK_slice_open hF
  simp [Value.cells] at hcs
  obtain ⟨rfl, rfl, rfl⟩ := hcs
  exact ⟨l, rfl, hc, hl, hg⟩
theorem slice_field {H : Type} {enc : TypeId × Value → H} {w : World} {t e : TypeId} {α : Type} {d : Kd α} {good : List α → Prop} (ho : Opens P t (Kd.slice e d) good) {v : Value} {n : Nat} {x : DataW H × List MemPlace}
    (h : DataW.trod enc P w 0 (fun _ => true) true n t [v] = some x) (hx : ∀ n ∈ DataW.weights P t x.1, n ≤ 140737488351232) :
    ∃ (A : Option Addr) (c : Nat) (l : List α), v = .slice A l.length c ∧ Kd.F d w (fun _ => True) A l.length l ∧ l.length ≤ c ∧ good l := by
  obtain ⟨l, hF, hg⟩ := ho enc w n _ _ h hx
  obtain ⟨A', c, hcs, hl, hc⟩ := Kd.FK_slice_open hF
  simp at hcs
  exact ⟨A', c, l, hcs, hc, hl, hg⟩
theorem int_field {H : Type} {enc : TypeId × Value → H} {w : World} {t : TypeId} {k : IntKind} (ht : P.underlying t = some (.int k)) {v : Value} {n : Nat} {x : DataW H × List MemPlace}
    (h : DataW.trod enc P w 0 (fun _ => true) true n t [v] = some x) : ∃ a : Int, v = .int k a ∧ (Lit.int k a).wf = true := by
  obtain ⟨a, hcs, _, hw⟩ := DataW.trod_int ht h
  simp at hcs
  exact ⟨a, hcs, hw⟩
theorem at_ {H : Type} {ts : List TypeId} {ds : List (DataW H)} (h : (DataW.weightsEach P ts ds).all (· ≤ reachBytes) = true) {j : Nat} {t : TypeId} {d : DataW H} (ht : ts[j]? = some t) (hd : ds[j]? = some d) :
    ∀ n ∈ DataW.weights P t d, n ≤ 140737488351232 := fun n hn => by
  have := List.all_eq_true.1 h _ (DataW.weights_mem_each ht hd n hn)
  exact of_decide_eq_true this
theorem fields {H : Type} {t : TypeId} {fs : Array Field} {ds : List (DataW H)} (ht : P.underlying t = some (.struct fs)) (hx : ∀ n ∈ DataW.weights P t (.agg ds), n ≤ 140737488351232) {j : Nat} {f : Field} {d : DataW H} (hf : fs.toList[j]? = some f) (hd : ds[j]? = some d) :
    ∀ n ∈ DataW.weights P f.type d, n ≤ 140737488351232 := fun n hn => by
  refine hx n ?_
  rw [DataW.weights, ht]
  exact DataW.weights_mem_each (ts := fs.toList.map (·.type)) (by simp [hf]) hd n hn
end Go.Proofs.Ytkmlekfmccghjaa.Open
namespace Go.Proofs.Ytkmlekfmccghjaa.Pu
open Go.RowKit Go.Proofs.YtkmlekfmccghjaaW.PrintWords Go.Proofs.YtkmlekfmccghjaaW.PrintLast Go.Proofs.YtkmlekfmccghjaaW.PrintMore
def Tells {α : Type} (g : Nat → Option α) (v : α) : Prop := ∃ k0, ∀ k, k0 ≤ k → g k = some v
theorem Tells.ex {α : Type} {g : Nat → Option α} {v : α} (h : Tells g v) : ∃ k, g k = some v := by
  obtain ⟨k0, h⟩ := h; exact ⟨k0, h k0 (Nat.le_refl _)⟩
theorem Tells.const {α : Type} (v : α) : Tells (fun _ => some v) v := ⟨0, fun _ _ => rfl⟩
theorem Tells.congr {α : Type} {g h : Nat → Option α} {v : α} (e : ∀ k, g k = h k) (H : Tells h v) : Tells g v := by
  obtain ⟨k0, H⟩ := H; exact ⟨k0, fun k hk => (e k).trans (H k hk)⟩
theorem Tells.bind {α β : Type} {g : Nat → Option α} {v : α} {h : Nat → α → Option β} {u : β} (H : Tells g v) (K : Tells (fun k => h k v) u) :
    Tells (fun k => (g k).bind (h k)) u := by
  obtain ⟨k0, H⟩ := H; obtain ⟨k1, K⟩ := K
  refine ⟨k0 + k1, fun k hk => ?_⟩
  show (g k).bind (h k) = some u
  rw [H k (by omega)]; exact K k (by omega)
theorem Tells.succ {α : Type} {g h : Nat → Option α} {v : α} (e : ∀ k, g (k + 1) = h k) (H : Tells h v) : Tells g v := by
  obtain ⟨k0, H⟩ := H
  refine ⟨k0 + 1, fun k hk => ?_⟩
  obtain ⟨j, rfl⟩ : ∃ j, k = j + 1 := ⟨k - 1, by omega⟩
  exact (e j).trans (H j (by omega))
theorem Tells.mono {α : Type} {g : Nat → Option α} (hm : ∀ k, LeO (g k) (g (k + 1))) {k : Nat} {v : α} (h : g k = some v) : Tells g v :=
  ⟨k, fun _ hk => at_rounds hm hk h⟩
theorem Tells.pos {α : Type} {c : Prop} [Decidable c] {g h : Nat → Option α} {v : α} (hc : c) (H : Tells g v) : Tells (fun k => if c then g k else h k) v := by
  obtain ⟨k0, H⟩ := H; exact ⟨k0, fun k hk => (if_pos hc).trans (H k hk)⟩
theorem Tells.neg {α : Type} {c : Prop} [Decidable c] {g h : Nat → Option α} {v : α} (hc : ¬ c) (H : Tells h v) : Tells (fun k => if c then g k else h k) v := by
  obtain ⟨k0, H⟩ := H; exact ⟨k0, fun k hk => (if_neg hc).trans (H k hk)⟩
theorem Tells.ite {α : Type} {c : Prop} [Decidable c] {g h : Nat → Option α} {u v : α} (H : c → Tells g u) (K : ¬ c → Tells h v) : Tells (fun k => if c then g k else h k) (if c then u else v) := by
  by_cases hc : c
  · rw [if_pos hc]; exact Tells.pos hc (H hc)
  · rw [if_neg hc]; exact Tells.neg hc (K hc)
theorem w64 {n : Int} (h0 : -9223372036854775808 ≤ n) (h1 : n < 9223372036854775808) : wrap64 n = n := by unfold wrap64; omega
theorem w64s {i n : Nat} (h : i < n) (hn : n < 4611686018427387904) : wrap64 ((i : Int) + 1) = ((i + 1 : Nat) : Int) := by unfold wrap64; omega
theorem wf64 {n : Int} (h : (Lit.int .i64 n).wf = true) : -9223372036854775808 ≤ n ∧ n ≤ 9223372036854775807 := by
  simp only [Lit.wf, Bool.and_eq_true, decide_eq_true_eq] at h
  have a : IntKind.i64.min = -9223372036854775808 := by decide
  have b : IntKind.i64.max = 9223372036854775807 := by decide
  omega
end Go.Proofs.Ytkmlekfmccghjaa.Pu
namespace Go.Proofs.Ytkmlekfmccghjaa.Pu
open Go.RowKit Go.Proofs.Ytkmlekfmccghjaa.P Go.Proofs.YtkmlekfmccghjaaW.PrintWords Go.Proofs.YtkmlekfmccghjaaW.PrintLast Go.Proofs.YtkmlekfmccghjaaW.PrintMore
def I64 (n : Int) : Prop := (Lit.int .i64 n).wf = true
theorem I64.lo {n : Int} (h : I64 n) : -9223372036854775808 ≤ n := (wf64 h).1
theorem I64.hi {n : Int} (h : I64 n) : n ≤ 9223372036854775807 := (wf64 h).2
def litT (l : Int) (v : List Bool) : Bool := decide (l ≠ 0) && decide (l.natAbs ≤ v.length) && (v.getD (l.natAbs - 1) false == decide (l > 0))
def holds (c : List Int) (v : List Bool) : Bool := c.any fun l => litT l v
def every (c : List (List Int)) (v : List Bool) : Bool := c.all fun x => holds x v
def badLit (n l : Int) : Bool := decide (l = 0 ∨ l > n ∨ l < -n)
def clauseErr (c : List Int) (n : Int) : Int := if c.length > 64 then 2 else if c.any (badLit n) then 1 else 0
theorem lit_is_eq (a : Int) : lit_is.f a = some (decide (a ≠ 0 ∧ a ≠ -9223372036854775808)) := by
  unfold lit_is.f
  by_cases h : a = 0
  · rw [if_pos h, decide_eq_false (by simp [h])]
  · rw [if_neg h]
    by_cases h2 : a = -9223372036854775808
    · rw [h2]; rfl
    · rw [decide_eq_true ⟨h, h2⟩]
      simpa using h2
theorem lit_variable_eq {a : Int} (h : I64 a) (hm : a ≠ -9223372036854775808) : lit_variable.f a = some ((a.natAbs : Nat) : Int) := by
  have := h.lo; have := h.hi
  unfold lit_variable.f mx wrap64
  split <;> (congr 1; omega)
theorem rd_at (xs : List Int) (i : Nat) (h : i < xs.length) : rd xs (i : Int) = xs[i] := by simp [rd, h]
theorem lit_Right_loop (c : List Int) (n : Int) (hc : ∀ l ∈ c, I64 l) (hn : I64 n) (hs : c.length < 4611686018427387904) : ∀ (m i : Nat), m + i = c.length →
    Tells (fun k => lit_Right.l0 k n c (c.length : Int) (i : Int)) (if (c.drop i).any (badLit n) then 1 else 0)
  | 0, i, h => by
    refine Tells.succ (fun k => by rw [lit_Right.l0]) (Tells.neg (by omega) ?_)
    rw [List.drop_of_length_le (by omega)]; exact Tells.const _
  | m + 1, i, h => by
    have hi : i < c.length := by omega
    have hl := hc _ (List.getElem_mem hi); have h1 := hl.lo; have h2 := hl.hi; have := hn.lo; have := hn.hi
    refine Tells.succ (fun k => by rw [lit_Right.l0]) (Tells.pos (by omega) (Tells.pos (by omega) (Tells.pos (by omega) ?_)))
    rw [rd_at _ _ hi, w64s hi hs, List.drop_eq_getElem_cons hi, List.any_cons, lit_is_eq]
    refine Tells.bind (Tells.const _) ?_
    by_cases hb : c[i] ≠ 0 ∧ c[i] ≠ -9223372036854775808
    · refine Tells.pos (decide_eq_true hb) ?_
      rw [lit_variable_eq hl hb.2]
      refine Tells.bind (Tells.const _) ?_
      by_cases hv : ((c[i].natAbs : Nat) : Int) > n
      · have e : badLit n c[i] = true := decide_eq_true (by omega)
        rw [e, Bool.true_or, if_pos rfl]
        exact Tells.pos hv (Tells.const _)
      · have e : badLit n c[i] = false := decide_eq_false (by omega)
        rw [e, Bool.false_or]
        exact Tells.neg hv (lit_Right_loop c n hc hn hs m (i + 1) (by omega))
    · have e : badLit n c[i] = true := decide_eq_true (by omega)
      rw [e, Bool.true_or, if_pos rfl]
      exact Tells.neg (by simpa using hb) (Tells.const _)
theorem lit_Right_tells (c : List Int) (n : Int) (hc : ∀ l ∈ c, I64 l) (hn : I64 n) (hs : c.length < 4611686018427387904) : Tells (fun k => lit_Right.f k c n) (clauseErr c n) := by
  unfold lit_Right.f clauseErr
  by_cases h : c.length > 64
  · rw [if_pos h]; exact Tells.pos (by omega) (Tells.const _)
  · rw [if_neg h]; exact Tells.neg (by omega) (lit_Right_loop c n hc hn hs c.length 0 rfl)
def clausesErr (n : Int) : List (List Int) → Int
  | [] => 0
  | c :: l => if clauseErr c n = 0 then clausesErr n l else clauseErr c n
def setErr (n : Int) (l : List (List Int)) : Int := if n < 0 ∨ n > 1024 then 1 else if l.length > 4096 then 2 else clausesErr n l
def Rows64 (l : List (List Int)) : Prop := l.length < 4611686018427387904 ∧ ∀ c ∈ l, c.length < 4611686018427387904 ∧ ∀ x ∈ c, I64 x
theorem rdL_at (xs : List (List Int)) (i : Nat) (h : i < xs.length) : rd_L3 xs (i : Int) = xs[i] := by simp [rd_L3, h]
theorem rows64 {l : List (List Int)} (h : Open.Row 24 (Open.Row 8 fun n => (Lit.int .i64 n).wf = true) l) : Rows64 l :=
  ⟨by have := h.1; omega, fun c hc => ⟨by have := (h.2 c hc).1; omega, (h.2 c hc).2⟩⟩
def isL (l : Int) : Bool := decide (l ≠ 0 ∧ l ≠ -9223372036854775808)
def hasL (c : List Int) (l : Int) : Bool := isL l && c.any fun x => x == l
theorem hasL_iff {c : List Int} {l : Int} : hasL c l = true ↔ isL l = true ∧ l ∈ c := by
  unfold hasL
  rw [Bool.and_eq_true, List.any_eq_true]
  refine ⟨fun h => ⟨h.1, ?_⟩, fun h => ⟨h.1, l, h.2, by simp⟩⟩
  obtain ⟨x, hx, e⟩ := h.2
  rw [← beq_iff_eq.1 e]; exact hx
theorem lit_is_isL (a : Int) : lit_is.f a = some (isL a) := lit_is_eq a
def aheadL (a b : Int) : Bool := decide (a.natAbs < b.natAbs) || (decide (a.natAbs = b.natAbs) && decide (a < b))
def insL (x : Int) (out : List Int) : List Int := out.takeWhile (fun y => aheadL y x) ++ x :: out.dropWhile (fun y => aheadL y x)
def cleanStep (out : List Int) (x : Int) : List Int := if isL x && !hasL out x then insL x out else out
def cleanL (c : List Int) : List Int := c.foldl cleanStep []
def oppL (c : List Int) : Bool := c.any fun x => hasL c (-x)
theorem insL_mem {x y : Int} {out : List Int} : y ∈ insL x out ↔ y = x ∨ y ∈ out := by
  unfold insL
  rw [List.mem_append, List.mem_cons]
  constructor
  · rintro (h | h | h)
    · exact .inr (List.takeWhile_subset _ h)
    · exact .inl h
    · exact .inr (List.dropWhile_subset _ h)
  · rintro (h | h)
    · exact .inr (.inl h)
    · rw [← List.takeWhile_append_dropWhile (p := fun y => aheadL y x) (l := out), List.mem_append] at h
      rcases h with h | h
      · exact .inl h
      · exact .inr (.inr h)
theorem insL_length (x : Int) (out : List Int) : (insL x out).length = out.length + 1 := by
  have := congrArg List.length (List.takeWhile_append_dropWhile (p := fun y => aheadL y x) (l := out))
  unfold insL
  rw [List.length_append] at this ⊢
  rw [List.length_cons]; omega
theorem insL_nodup {x : Int} {out : List Int} (h : out.Nodup) (hx : ¬ x ∈ out) : (insL x out).Nodup := by
  have e := List.takeWhile_append_dropWhile (p := fun y => aheadL y x) (l := out)
  unfold insL
  rw [← e] at h hx
  rw [List.nodup_append] at h ⊢
  rw [List.mem_append] at hx
  refine ⟨h.1, List.nodup_cons.2 ⟨fun hh => hx (.inr hh), h.2.1⟩, fun a ha b hb => ?_⟩
  rcases List.mem_cons.1 hb with rfl | hb
  · exact fun e => hx (.inl (e ▸ ha))
  · exact h.2.2 a ha b hb
theorem cleanStep_mem {out : List Int} {x y : Int} : y ∈ cleanStep out x ↔ y ∈ out ∨ (y = x ∧ isL x = true) := by
  unfold cleanStep
  by_cases h : (isL x && !hasL out x) = true
  · rw [if_pos h, insL_mem]
    have := (Bool.and_eq_true _ _ ▸ h).1
    exact ⟨fun h => h.elim (fun e => .inr ⟨e, this⟩) .inl, fun h => h.elim .inr (fun e => .inl e.1)⟩
  · rw [if_neg h]
    refine ⟨.inl, fun h' => h'.elim id fun ⟨e, hl⟩ => ?_⟩
    have : hasL out x = true := by
      rw [hl, Bool.true_and] at h
      simpa using h
    rw [e]; exact (hasL_iff.1 this).2
theorem cleanFold_mem : ∀ (c out : List Int) {y : Int}, y ∈ c.foldl cleanStep out ↔ y ∈ out ∨ (y ∈ c ∧ isL y = true)
  | [], _, _ => by simp
  | _ :: t, _, y => by
    rw [List.foldl_cons, cleanFold_mem t, cleanStep_mem, List.mem_cons]
    constructor
    · rintro ((h | ⟨rfl, h⟩) | ⟨h, h'⟩)
      · exact .inl h
      · exact .inr ⟨.inl rfl, h⟩
      · exact .inr ⟨.inr h, h'⟩
    · rintro (h | ⟨rfl | h, h'⟩)
      · exact .inl (.inl h)
      · exact .inl (.inr ⟨rfl, h'⟩)
      · exact .inr ⟨h, h'⟩
theorem cleanL_mem {c : List Int} {y : Int} : y ∈ cleanL c ↔ y ∈ c ∧ isL y = true := by unfold cleanL; rw [cleanFold_mem]; simp
theorem cleanStep_nodup {out : List Int} {x : Int} (h : out.Nodup) : (cleanStep out x).Nodup := by
  unfold cleanStep
  by_cases hx : (isL x && !hasL out x) = true
  · rw [if_pos hx]
    refine insL_nodup h fun hm => ?_
    rw [Bool.and_eq_true] at hx
    have := hasL_iff.2 ⟨hx.1, hm⟩
    rw [this] at hx
    simp at hx
  · rw [if_neg hx]; exact h
theorem cleanFold_nodup : ∀ (c out : List Int), out.Nodup → (c.foldl cleanStep out).Nodup
  | [], _, h => h
  | _ :: t, _, h => cleanFold_nodup t _ (cleanStep_nodup h)
theorem cleanL_nodup (c : List Int) : (cleanL c).Nodup := cleanFold_nodup c [] List.nodup_nil
theorem cleanStep_length (out : List Int) (x : Int) : (cleanStep out x).length ≤ out.length + 1 := by
  unfold cleanStep
  split
  · rw [insL_length]; omega
  · omega
theorem ahead_iff {a b : Int} : aheadL a b = true ↔ a.natAbs < b.natAbs ∨ (a.natAbs = b.natAbs ∧ a < b) := by
  unfold aheadL
  simp only [Bool.or_eq_true, Bool.and_eq_true, decide_eq_true_eq]
theorem ahead_asymm {a b : Int} (h : aheadL a b = true) : ¬ aheadL b a = true := by
  rw [ahead_iff] at h ⊢; omega
theorem ahead_irrefl (a : Int) : ¬ aheadL a a = true := by
  rw [ahead_iff]; omega
theorem ahead_trans {a b c : Int} (h : aheadL a b = true) (h' : aheadL b c = true) : aheadL a c = true := by
  rw [ahead_iff] at h h' ⊢; omega
theorem ahead_total {a b : Int} (h : a ≠ b) : aheadL a b = true ∨ aheadL b a = true := by
  rw [ahead_iff, ahead_iff]; omega
theorem rising_ext : ∀ (a b : List Int), a.Pairwise (fun x y => aheadL x y = true) → b.Pairwise (fun x y => aheadL x y = true) → (∀ x, x ∈ a ↔ x ∈ b) → a = b
  | [], [], _, _, _ => rfl
  | [], y :: b, _, _, h => absurd ((h y).2 (by simp)) (by simp)
  | x :: a, [], _, _, h => absurd ((h x).1 (by simp)) (by simp)
  | x :: a, y :: b, ha, hb, h => by
    rw [List.pairwise_cons] at ha hb
    have e : x = y := by
      refine Decidable.byContradiction fun hne => ?_
      have h1 : aheadL y x = true := by
        rcases List.mem_cons.1 ((h x).1 (by simp)) with e | hm
        · exact absurd e hne
        · exact hb.1 x hm
      have h2 : aheadL x y = true := by
        rcases List.mem_cons.1 ((h y).2 (by simp)) with e | hm
        · exact absurd e.symm hne
        · exact ha.1 y hm
      exact ahead_asymm h1 h2
    subst e
    rw [rising_ext a b ha.2 hb.2 (fun z => ?_)]
    constructor
    · intro hz
      rcases List.mem_cons.1 ((h z).1 (by simp [hz])) with e | hm
      · exact absurd (ha.1 z hz) (e ▸ ahead_irrefl z)
      · exact hm
    · intro hz
      rcases List.mem_cons.1 ((h z).2 (by simp [hz])) with e | hm
      · exact absurd (hb.1 z hz) (e ▸ ahead_irrefl z)
      · exact hm
theorem insL_rises {x : Int} : ∀ {out : List Int}, out.Pairwise (fun x y => aheadL x y = true) → ¬ x ∈ out → (insL x out).Pairwise (fun x y => aheadL x y = true)
  | [], _, _ => by unfold insL; simp
  | y :: out, h, hx => by
    rw [List.pairwise_cons] at h
    have hne : y ≠ x := fun e => hx (by simp [e])
    by_cases hy : aheadL y x = true
    · have e : insL x (y :: out) = y :: insL x out := by
        unfold insL
        rw [List.takeWhile_cons_of_pos (p := fun y => aheadL y x) hy, List.dropWhile_cons_of_pos (p := fun y => aheadL y x) hy]; rfl
      rw [e, List.pairwise_cons]
      refine ⟨fun z hz => ?_, insL_rises h.2 (fun hm => hx (by simp [hm]))⟩
      rcases insL_mem.1 hz with rfl | hz
      · exact hy
      · exact h.1 z hz
    · have e : insL x (y :: out) = x :: y :: out := by
        unfold insL
        rw [List.takeWhile_cons_of_neg (p := fun y => aheadL y x) hy, List.dropWhile_cons_of_neg (p := fun y => aheadL y x) hy]; rfl
      have hxy : aheadL x y = true := (ahead_total hne).resolve_left hy
      rw [e, List.pairwise_cons, List.pairwise_cons]
      refine ⟨fun z hz => ?_, h⟩
      rcases List.mem_cons.1 hz with rfl | hz
      · exact hxy
      · exact ahead_trans hxy (h.1 z hz)
theorem cleanStep_rises {out : List Int} {x : Int} (h : out.Pairwise (fun x y => aheadL x y = true)) : (cleanStep out x).Pairwise (fun x y => aheadL x y = true) := by
  unfold cleanStep
  by_cases hc : (isL x && !hasL out x) = true
  · rw [if_pos hc]
    refine insL_rises h fun hm => ?_
    rw [Bool.and_eq_true] at hc
    have := hasL_iff.2 ⟨hc.1, hm⟩
    rw [this] at hc
    simp at hc
  · rw [if_neg hc]; exact h
theorem cleanFold_rises : ∀ (c out : List Int), out.Pairwise (fun x y => aheadL x y = true) → (c.foldl cleanStep out).Pairwise (fun x y => aheadL x y = true)
  | [], _, h => h
  | _ :: t, _, h => cleanFold_rises t _ (cleanStep_rises h)
theorem cleanL_rises (c : List Int) : (cleanL c).Pairwise (fun x y => aheadL x y = true) := cleanFold_rises c [] List.Pairwise.nil
theorem cfL_ahead {a b : Int} (ha : I64 a) (hb : I64 b) (la : isL a = true) (lb : isL b = true) : Go.Proofs.ltOf cfL a b = aheadL a b := by
  have := ha.lo; have := ha.hi; have := hb.lo; have := hb.hi
  have l1 := (of_decide_eq_true la).2
  have l2 := (of_decide_eq_true lb).2
  have e1 : mx a (wrap64 (-a)) = ((a.natAbs : Nat) : Int) := by
    unfold mx wrap64; split <;> omega
  have e2 : mx b (wrap64 (-b)) = ((b.natAbs : Nat) : Int) := by
    unfold mx wrap64; split <;> omega
  unfold Go.Proofs.ltOf
  rw [Bool.eq_iff_iff, decide_eq_true_eq, cfL_lt, e1, e2, ahead_iff]
  omega
theorem compact_mem (xs : List Int) (z : Int) : z ∈ Lib.compact xs ↔ z ∈ xs := by
  unfold Lib.compact Lib.compactUpTo
  rw [List.mem_map]
  constructor
  · rintro ⟨j, hj, rfl⟩
    have hj := List.mem_range.1 (List.mem_filter.1 hj).1
    simp [hj]
  · intro hz
    obtain ⟨i, hi, rfl⟩ := List.getElem_of_mem hz
    have key : ∀ j : Nat, j < xs.length → ∃ a, a ∈ (List.range xs.length).filter (Lib.keeps xs.toArray) ∧ xs.toArray[a]! = xs.toArray[j]! := by
      intro j
      induction j with
      | zero => exact fun h => ⟨0, List.mem_filter.2 ⟨List.mem_range.2 h, Lib.keeps_lt_one _ 0 (by omega)⟩, rfl⟩
      | succ j ih =>
        intro h
        by_cases e : xs.toArray[j + 1]! = xs.toArray[j + 1 - 1]!
        · obtain ⟨a, ha, ea⟩ := ih (by omega)
          exact ⟨a, ha, ea.trans e.symm⟩
        · exact ⟨j + 1, List.mem_filter.2 ⟨List.mem_range.2 h, Lib.keeps_pos e⟩, rfl⟩
    obtain ⟨a, ha, ea⟩ := key i hi
    exact ⟨a, ha, by rw [ea]; simp [hi]⟩
theorem compact_rises (xs : List Int) (h : xs.Pairwise (fun x y => ¬ aheadL y x = true)) : (Lib.compact xs).Pairwise (fun x y => aheadL x y = true) := by
  unfold Lib.compact Lib.compactUpTo
  rw [List.pairwise_map]
  have hs : ∀ i j : Nat, i < j → j < xs.length → ¬ aheadL xs.toArray[j]! xs.toArray[i]! = true := fun i j hij hj => by
    have := List.pairwise_iff_getElem.1 h i j (by omega) hj hij
    simpa [hj, show i < xs.length by omega] using this
  have hr : (List.range xs.length).Pairwise (· < ·) := List.pairwise_lt_range
  refine List.Pairwise.imp_of_mem (R := (· < ·)) (fun {i j} hi hj hij => ?_) (hr.filter _)
  obtain ⟨hj, hk⟩ := List.mem_filter.1 hj
  have hj := List.mem_range.1 hj
  have hk := of_decide_eq_true hk
  have hne : xs.toArray[j]! ≠ xs.toArray[j - 1]! := hk.resolve_left (by omega)
  have h1 : aheadL xs.toArray[j - 1]! xs.toArray[j]! = true := (ahead_total hne).resolve_left (hs (j - 1) j (by omega) hj)
  rcases Nat.lt_or_ge i (j - 1) with h2 | h2
  · by_cases e : xs.toArray[i]! = xs.toArray[j - 1]!
    · rw [e]; exact h1
    · exact ahead_trans ((ahead_total e).resolve_right (hs i (j - 1) h2 (by omega))) h1
  · obtain rfl : i = j - 1 := by omega
    exact h1
theorem lit_Clean_out (c : List Int) (hc : ∀ x ∈ c, I64 x) : lit_Clean.out c = cleanL c := by
  unfold lit_Clean.out
  have ef : (fun l => (lit_is.f l).getD false) = isL := funext fun l => by rw [lit_is_isL]; rfl
  rw [ef]
  have hm : ∀ z, z ∈ (c.filter isL).mergeSort (fun x y => !(Go.Proofs.ltOf cfL) y x) ↔ z ∈ c ∧ isL z = true := fun z => by rw [List.mem_mergeSort, List.mem_filter]
  refine rising_ext _ _ (compact_rises _ ?_) (cleanL_rises c) (fun z => by rw [compact_mem, hm, cleanL_mem])
  have hp := List.pairwise_mergeSort (le := fun x y => !(Go.Proofs.ltOf cfL) y x) (fun a b d h1 h2 => by
    rw [Bool.not_eq_true'] at h1 h2 ⊢
    exact cfL_swo.ntrans _ _ _ h2 h1) (fun a b => by
    rw [Bool.or_eq_true, Bool.not_eq_true', Bool.not_eq_true']
    by_cases h : Go.Proofs.ltOf cfL b a = true
    · refine .inr ?_
      rw [Bool.eq_false_iff]
      intro h'
      have := cfL_swo.trans _ _ _ h h'
      rw [cfL_swo.irrefl] at this; cases this
    · exact .inl (Bool.eq_false_iff.2 h)) (c.filter isL)
  refine hp.imp_of_mem fun {x y} hx hy h => ?_
  rw [hm] at hx hy
  rw [Bool.not_eq_true', cfL_ahead (hc _ hy.1) (hc _ hx.1) hy.2 hx.2] at h
  rw [h]; decide
theorem adjB_iff : ∀ (l : List Int), l.Pairwise (fun x y => aheadL x y = true) → (∀ x ∈ l, I64 x ∧ isL x = true) → (adjB l = true ↔ ∃ x ∈ l, -x ∈ l)
  | [], _, _ => by simp [adjB]
  | [x], _, h => by
    have h1 := of_decide_eq_true (h x (by simp)).2
    simp only [adjB, List.mem_singleton, exists_eq_left]
    constructor
    · intro h; cases h
    · intro h; omega
  | x :: y :: t, hp, h => by
    obtain ⟨hx, hp'⟩ := List.pairwise_cons.1 hp
    have ih := adjB_iff (y :: t) hp' (fun z hz => h z (List.mem_cons_of_mem _ hz))
    obtain ⟨i1, i2⟩ := h x (by simp)
    have j1 := i1.lo; have j2 := i1.hi
    have i3 := of_decide_eq_true i2
    have hw : wrap64 (-x) = -x := w64 (by omega) (by omega)
    rw [adjB, Bool.or_eq_true, ih, beq_iff_eq, hw]
    constructor
    · rintro (h | ⟨z, h1, h2⟩)
      · exact ⟨x, by simp, by simp [h]⟩
      · exact ⟨z, List.mem_cons_of_mem _ h1, List.mem_cons_of_mem _ h2⟩
    · have key : -x ∈ y :: t → y = -x := fun hm => by
        rcases List.mem_cons.1 hm with e | hm
        · exact e.symm
        · have a1 := ahead_iff.1 (hx y (by simp))
          have a2 := ahead_iff.1 ((List.pairwise_cons.1 hp').1 _ hm)
          omega
      rintro ⟨z, h1, h2⟩
      rcases List.mem_cons.1 h1 with rfl | h1
      · rcases List.mem_cons.1 h2 with e | h2
        · omega
        · exact .inl (key h2)
      · rcases List.mem_cons.1 h2 with e | h2
        · have : z = -x := by omega
          exact .inl (key (this ▸ h1))
        · exact .inr ⟨z, h1, h2⟩
theorem oppL_iff {l : List Int} (h : ∀ x ∈ l, I64 x ∧ isL x = true) : oppL l = true ↔ ∃ x ∈ l, -x ∈ l := by
  unfold oppL
  rw [List.any_eq_true]
  constructor
  · rintro ⟨x, h1, h2⟩
    exact ⟨x, h1, (hasL_iff.1 h2).2⟩
  · rintro ⟨x, h1, h2⟩
    exact ⟨x, h1, hasL_iff.2 ⟨(h _ h2).2, h2⟩⟩
theorem cleanL_good {c : List Int} (hc : ∀ x ∈ c, I64 x) : ∀ x ∈ cleanL c, I64 x ∧ isL x = true := fun x hx => by
  rw [cleanL_mem] at hx
  exact ⟨hc x hx.1, hx.2⟩
theorem cleanL_length (c : List Int) : (cleanL c).length ≤ c.length := by
  have : ∀ (c out : List Int), (c.foldl cleanStep out).length ≤ out.length + c.length := by
    intro c
    induction c with
    | nil => intro out; simp
    | cons x t ih =>
      intro out
      rw [List.foldl_cons, List.length_cons]
      have := ih (cleanStep out x); have := cleanStep_length out x
      omega
  have := this c []
  unfold cleanL
  simpa using this
theorem adjB_oppL {c : List Int} (hc : ∀ x ∈ c, I64 x) : adjB (cleanL c) = oppL (cleanL c) := by
  rw [Bool.eq_iff_iff, adjB_iff _ (cleanL_rises c) (cleanL_good hc), oppL_iff (cleanL_good hc)]
theorem lit_Clean_eq (c : List Int) (hc : ∀ x ∈ c, I64 x) (hs : c.length < 17592186044416) : lit_Clean.f c = some (cleanL c, !oppL (cleanL c)) := by
  unfold lit_Clean.f
  rw [lit_Clean_out c hc, adjB_oppL hc, if_pos ⟨hs, cleanL_length c⟩]
def InN (n x : Int) : Prop := x ≠ 0 ∧ -n ≤ x ∧ x ≤ n
structure Fine (E : Eng) : Prop where
  n0 : 0 ≤ E.n ∧ E.n ≤ 1024
  cls : ∀ c ∈ E.cls, ∀ x ∈ c, InN E.n x
  tr : ∀ x ∈ E.tr, InN E.n x
  mks : ∀ x, (E.ms x).isSome = true ↔ x ∈ E.tr
  nd : E.tr.Nodup
  con : ∀ x ∈ E.tr, -x ∉ E.tr
  wt : ∀ x, ∀ i ∈ E.wt x, 0 ≤ i ∧ i.toNat < E.cls.length
def Neg (n : Int) (tv : Int → Bool) : Prop := ∀ x, InN n x → tv (-x) = !tv x
def Sat (tv : Int → Bool) (c : List Int) : Prop := ∃ x ∈ c, tv x = true
def Ok (tv : Int → Bool) (E : Eng) : Prop := (∀ y ∈ E.tr, tv y = true) ∧ E.br < 0
structure Grew (E E' : Eng) : Prop where
  n : E'.n = E.n
  cls : E'.cls = E.cls
  wt : E'.wt = E.wt
  ws : E'.ws = E.ws
  st : E'.st = E.st
  tr : ∃ more, E'.tr = E.tr ++ more
  ok : ∀ tv, Neg E.n tv → (∀ c ∈ E.cls, Sat tv c) → Ok tv E → Ok tv E'
theorem Grew.refl (E : Eng) : Grew E E := ⟨rfl, rfl, rfl, rfl, rfl, ⟨[], by simp⟩, fun _ _ _ h => h⟩
theorem Grew.trans {A B C : Eng} (h : Grew A B) (k : Grew B C) : Grew A C where
  n := k.n.trans h.n
  cls := k.cls.trans h.cls
  wt := k.wt.trans h.wt
  ws := k.ws.trans h.ws
  st := k.st.trans h.st
  tr := by
    obtain ⟨a, ha⟩ := h.tr
    obtain ⟨b, hb⟩ := k.tr
    exact ⟨a ++ b, by rw [hb, ha, List.append_assoc]⟩
  ok tv h1 h2 h3 := k.ok tv (by rw [h.n]; exact h1) (by rw [h.cls]; exact h2) (h.ok tv h1 h2 h3)
theorem InN.neg {n x : Int} (h : InN n x) : InN n (-x) := by unfold InN at *; omega
theorem InN.w {n x : Int} (h : InN n x) (hn : n ≤ 1024) : wrap64 (-x) = -x := by unfold InN at h; unfold wrap64; omega
theorem InN.wf {n x : Int} (h : InN n x) (hn : n ≤ 1024) : (Lit.int .i64 x).wf = true := by
  have a : IntKind.i64.min = -9223372036854775808 := by decide
  have b : IntKind.i64.max = 9223372036854775807 := by decide
  unfold InN at h
  unfold Lit.wf
  rw [Bool.and_eq_true, decide_eq_true_eq, decide_eq_true_eq]
  omega
section
variable {E : Eng}
theorem Fine.lits (h : Fine E) : E.Lits := fun c hc x hx => (h.cls c hc x hx).wf h.n0.2
theorem Fine.short (h : Fine E) : E.tr.length ≤ 2049 := by
  have := nodup_le (L := (List.range 2049).map fun i : Nat => (i : Int) - 1024) h.nd (fun x hx => by
    have h1 := h.tr x hx
    have h2 := h.n0
    unfold InN at h1
    exact List.mem_map.2 ⟨(x + 1024).toNat, List.mem_range.2 (by omega), by omega⟩)
  simpa using this
theorem Fine.val (h : Fine E) {x : Int} (hx : InN E.n x) : E.val x = if x ∈ E.tr then 1 else if -x ∈ E.tr then -1 else 0 := by
  unfold Eng.val
  rw [hx.w h.n0.2]
  by_cases h1 : x ∈ E.tr
  · rw [if_pos ((h.mks x).2 h1), if_pos h1]
  · rw [if_neg (fun e => h1 ((h.mks x).1 e)), if_neg h1]
    by_cases h2 : -x ∈ E.tr
    · rw [if_pos ((h.mks _).2 h2), if_pos h2]
    · rw [if_neg (fun e => h2 ((h.mks _).1 e)), if_neg h2]
theorem scan_some : ∀ (c : List Int) (o o' : Int), (∀ x ∈ c, x ≠ 0) → scanU E c o = some o' → (o ≠ 0 → o' = o) ∧ (∀ x ∈ c, E.val x = -1 ∨ x = o') ∧ (o' = o ∨ o' ∈ c ∧ E.val o' = 0)
  | [], o, o', _, h => by
    injection h with h
    subst h
    exact ⟨fun _ => rfl, fun x hx => by simp at hx, .inl rfl⟩
  | l :: t, o, o', hc, h => by
    have h : (if E.val l > 0 then none else if E.val l = 0 then (if o = 0 then scanU E t l else none) else scanU E t o) = some o' := h
    have ht : ∀ x ∈ t, x ≠ 0 := fun x hx => hc x (List.mem_cons_of_mem _ hx)
    have hl : l ≠ 0 := hc l (by simp)
    rcases E.val_or l with hv | hv | hv
    · rw [hv, if_pos (by decide)] at h; cases h
    · rw [hv, if_neg (by decide), if_pos rfl] at h
      by_cases ho : o = 0
      · rw [if_pos ho] at h
        obtain ⟨i1, i2, i3⟩ := scan_some t l o' ht h
        have e := i1 hl
        subst e
        refine ⟨fun hne => absurd ho hne, fun x hx => ?_, .inr ⟨by simp, hv⟩⟩
        rcases List.mem_cons.1 hx with e | hx
        · exact .inr e
        · exact i2 x hx
      · rw [if_neg ho] at h; cases h
    · rw [hv, if_neg (by decide), if_neg (by decide)] at h
      obtain ⟨i1, i2, i3⟩ := scan_some t o o' ht h
      refine ⟨i1, fun x hx => ?_, ?_⟩
      · rcases List.mem_cons.1 hx with e | hx
        · exact .inl (by rw [e]; exact hv)
        · exact i2 x hx
      · rcases i3 with i3 | i3
        · exact .inl i3
        · exact .inr ⟨List.mem_cons_of_mem _ i3.1, i3.2⟩
theorem Fine.put (h : Fine E) {l : Int} (hl : InN E.n l) (hv : E.val l = 0) (why : Int) : Fine (E.put l why) := by
  have hv2 := h.val hl
  rw [hv] at hv2
  have h1 : l ∉ E.tr := fun e => by rw [if_pos e] at hv2; exact absurd hv2 (by decide)
  have h2 : -l ∉ E.tr := fun e => by rw [if_neg h1, if_pos e] at hv2; exact absurd hv2 (by decide)
  refine ⟨h.n0, h.cls, fun x hx => ?_, fun x => ?_, ?_, fun x hx => ?_, h.wt⟩
  · have hx : x ∈ E.tr ++ [l] := hx
    rcases List.mem_append.1 hx with hx | hx
    · exact h.tr x hx
    · rw [List.mem_singleton.1 hx]; exact hl
  · show (if x = l then some ((E.st.length : Int), why) else E.ms x).isSome = true ↔ x ∈ E.tr ++ [l]
    by_cases e : x = l
    · rw [if_pos e, e]; simp
    · rw [if_neg e, h.mks x]; simp [e]
  · show (E.tr ++ [l]).Nodup
    rw [List.nodup_append]
    exact ⟨h.nd, by simp, fun a ha b hb => by rw [List.mem_singleton.1 hb]; exact fun e => h1 (e ▸ ha)⟩
  · have hx : x ∈ E.tr ++ [l] := hx
    show -x ∉ E.tr ++ [l]
    have h0 : l ≠ 0 := hl.1
    intro hn
    rcases List.mem_append.1 hx with hx | hx <;> rcases List.mem_append.1 hn with hn | hn
    · exact h.con x hx hn
    · have := List.mem_singleton.1 hn
      exact h2 (by rw [← this, Int.neg_neg]; exact hx)
    · rw [List.mem_singleton.1 hx] at hn
      exact h2 hn
    · have e1 := List.mem_singleton.1 hx
      have e2 := List.mem_singleton.1 hn
      omega
theorem Fine.br (h : Fine E) (n : Int) : Fine { E with br := n } := ⟨h.n0, h.cls, h.tr, h.mks, h.nd, h.con, h.wt⟩
theorem Fine.look (h : Fine E) {n : Nat} (hn : n < E.cls.length) : Fine (E.look n) ∧ Grew E (E.look n) := by
  have hc : ∀ x ∈ E.cls.getD n [], InN E.n x := fun x hx => by
    rw [List.getD_eq_getElem?_getD, List.getElem?_eq_getElem hn] at hx
    exact h.cls _ (List.getElem_mem hn) x hx
  have hm : E.cls.getD n [] ∈ E.cls := by
    rw [List.getD_eq_getElem?_getD, List.getElem?_eq_getElem hn]; exact List.getElem_mem hn
  unfold Eng.look
  cases hs : scanU E (E.cls.getD n []) 0 with
  | none => exact ⟨h, Grew.refl E⟩
  | some o =>
    obtain ⟨_, i2, i3⟩ := scan_some _ 0 o (fun x hx => (hc x hx).1) hs
    have hfalse : ∀ tv, Neg E.n tv → Ok tv E → ∀ x, InN E.n x → E.val x = -1 → tv x = false := fun tv hn hok x hx hv => by
      have hv2 := h.val hx
      rw [hv] at hv2
      by_cases e1 : x ∈ E.tr
      · rw [if_pos e1] at hv2; exact absurd hv2 (by decide)
      · rw [if_neg e1] at hv2
        by_cases e2 : -x ∈ E.tr
        · have := hok.1 _ e2
          rw [hn x hx] at this
          simpa using this
        · rw [if_neg e2] at hv2; exact absurd hv2 (by decide)
    show Fine (if o = 0 then { E with br := (n : Int) } else E.put o (n : Int)) ∧ Grew E (if o = 0 then { E with br := (n : Int) } else E.put o (n : Int))
    by_cases ho : o = 0
    · rw [if_pos ho]
      refine ⟨h.br _, ⟨rfl, rfl, rfl, rfl, rfl, ⟨[], by simp⟩, fun tv hneg hall hok => ?_⟩⟩
      obtain ⟨x, hx, ht⟩ := hall _ hm
      rcases i2 x hx with hv | e
      · rw [hfalse tv hneg hok x (hc x hx) hv] at ht; cases ht
      · exact absurd (e.trans ho) (hc x hx).1
    · rw [if_neg ho]
      obtain ⟨hmo, hvo⟩ := i3.resolve_left ho
      refine ⟨h.put (hc o hmo) hvo _, ⟨rfl, rfl, rfl, rfl, rfl, ⟨[o], rfl⟩, fun tv hneg hall hok => ⟨fun y hy => ?_, hok.2⟩⟩⟩
      have hy : y ∈ E.tr ++ [o] := hy
      rcases List.mem_append.1 hy with hy | hy
      · exact hok.1 y hy
      · rw [List.mem_singleton.1 hy]
        obtain ⟨x, hx, ht⟩ := hall _ hm
        rcases i2 x hx with hv | e
        · rw [hfalse tv hneg hok x (hc x hx) hv] at ht; cases ht
        · rw [← e]; exact ht
end
theorem looks_some : ∀ (l : List Int) (E : Eng), Fine E → (∀ i ∈ l, 0 ≤ i ∧ i.toNat < E.cls.length) → ∃ E' b, Eng.looks l E = some (E', b) ∧ Fine E' ∧ Grew E E'
  | [], E, h, _ => ⟨E, false, rfl, h, Grew.refl E⟩
  | n :: t, E, h, hl => by
    show ∃ E' b, (if E.br ≥ 0 then some (E, true) else if 0 ≤ n ∧ n.toNat < E.cls.length ∧ E.tr.length < 4398046511104 then Eng.looks t (E.look n.toNat) else none) = some (E', b) ∧ Fine E' ∧ Grew E E'
    by_cases hb : E.br ≥ 0
    · rw [if_pos hb]
      exact ⟨E, true, rfl, h, Grew.refl E⟩
    · obtain ⟨h1, h2⟩ := hl n (by simp)
      have h3 := h.short
      rw [if_neg hb, if_pos ⟨h1, h2, by omega⟩]
      obtain ⟨g1, g2⟩ := h.look h2
      obtain ⟨E', b, e1, e2, e3⟩ := looks_some t (E.look n.toNat) g1 (fun i hi => by rw [g2.cls]; exact hl i (List.mem_cons_of_mem _ hi))
      exact ⟨E', b, e1, e2, g2.trans e3⟩
theorem follow_tells : ∀ (m i : Nat) (E : Eng), m + i ≥ 2050 → Fine E → ∃ E', Tells (fun k => Eng.follow k E i) E' ∧ Fine E' ∧ Grew E E'
  | m, i, E, hm, h => by
    by_cases hi : i < E.tr.length
    · have hs := h.short
      cases m with
      | zero => omega
      | succ m =>
        obtain ⟨E1, b, e1, e2, e3⟩ := looks_some (E.wt (wrap64 (-(rd E.tr (i : Int))))) E h (h.wt _)
        cases b with
        | true =>
          refine ⟨E1, Tells.succ (h := fun _ => some E1) (fun k => by rw [Eng.follow, if_pos hi, e1]; rfl) (Tells.const _), e2, e3⟩
        | false =>
          obtain ⟨E2, t2, f2, g2⟩ := follow_tells m (i + 1) E1 (by omega) e2
          exact ⟨E2, Tells.succ (fun k => by rw [Eng.follow, if_pos hi, e1]; rfl) t2, f2, e3.trans g2⟩
    · exact ⟨E, Tells.succ (fun k => by rw [Eng.follow, if_neg hi]) (Tells.const _), h, Grew.refl E⟩
theorem scan_eng : ∀ (m n : Nat) (E : Eng), n + m ≤ E.cls.length → Fine E → ∃ E', Eng.scan m n E = some E' ∧ Fine E' ∧ Grew E E'
  | 0, n, E, _, h => ⟨E, rfl, h, Grew.refl E⟩
  | m + 1, n, E, hn, h => by
    show ∃ E', (if E.br < 0 then (if E.tr.length < 4398046511104 then Eng.scan m (n + 1) (E.look n) else none) else some E) = some E' ∧ Fine E' ∧ Grew E E'
    by_cases hb : E.br < 0
    · have h3 := h.short
      rw [if_pos hb, if_pos (by omega)]
      obtain ⟨g1, g2⟩ := h.look (n := n) (by omega)
      obtain ⟨E', e1, e2, e3⟩ := scan_eng m (n + 1) (E.look n) (by rw [g2.cls]; omega) g1
      exact ⟨E', e1, e2, g2.trans e3⟩
    · rw [if_neg hb]
      exact ⟨E, rfl, h, Grew.refl E⟩
theorem settle_tells {E : Eng} (h : Fine E) : ∃ E', Tells (fun k => Eng.settle k E) E' ∧ Fine E' ∧ Grew E E' := by
  obtain ⟨E1, e1, e2, e3⟩ := scan_eng E.cls.length 0 E (by omega) h
  obtain ⟨E2, t2, f2, g2⟩ := follow_tells 2050 E.tr.length E1 (by omega) e2
  refine ⟨E2, ?_, f2, e3.trans g2⟩
  unfold Eng.settle
  rw [e1]
  exact t2
theorem badLit_InN {n l : Int} : badLit n l = false ↔ InN n l := by
  unfold badLit InN
  rw [decide_eq_false_iff_not]
  omega
theorem clauseErr_one (n l : Int) : clauseErr [l] n = 0 ↔ InN n l := by
  rw [← badLit_InN]
  unfold clauseErr
  cases h : badLit n l <;> simp [h]
theorem I64n {E : Eng} (h : Fine E) : I64 E.n := by
  have a : IntKind.i64.min = -9223372036854775808 := by decide
  have b : IntKind.i64.max = 9223372036854775807 := by decide
  have := h.n0
  unfold I64 Lit.wf
  rw [Bool.and_eq_true, decide_eq_true_eq, decide_eq_true_eq]
  omega
def pushed0 (E : Eng) (l : Int) : Eng := ({ E with st := E.st ++ [(E.tr.length : Int)] } : Eng).put l (-1)
theorem push_tells {E : Eng} (h : Fine E) {l : Int} (hl : I64 l) (hst : E.st.length < 2199023255552) : ∃ E' b, Tells (fun k => Eng.push k E l) (E', b) ∧ Fine E' ∧ (b = false → E' = E ∧ (E.br ≥ 0 ∨ ¬ InN E.n l ∨ E.val l ≠ 0)) ∧
    (b = true → InN E.n l ∧ E.br < 0 ∧ E.val l = 0 ∧ Fine (pushed0 E l) ∧ Grew (pushed0 E l) E') := by
  by_cases hb : E.br ≥ 0
  · refine ⟨E, false, ?_, h, fun _ => ⟨rfl, .inl hb⟩, fun e => (by cases e)⟩
    unfold Eng.push
    exact Tells.pos hb (Tells.const _)
  · have hr := lit_Right_tells [l] E.n (fun x hx => by rw [List.mem_singleton.1 hx]; exact hl) (I64n h) (by simp)
    by_cases hi : InN E.n l
    · rw [(clauseErr_one _ _).2 hi] at hr
      by_cases hv : E.val l = 0
      · have hs := h.short
        have hf0 : Fine ({ E with st := E.st ++ [(E.tr.length : Int)] } : Eng) := ⟨h.n0, h.cls, h.tr, h.mks, h.nd, h.con, h.wt⟩
        have hf1 : Fine (pushed0 E l) := hf0.put (l := l) hi hv (-1)
        obtain ⟨E', t', f', g'⟩ := follow_tells 2050 E.tr.length (pushed0 E l) (by omega) hf1
        refine ⟨E', true, ?_, f', fun e => (by cases e), fun _ => ⟨hi, by omega, hv, hf1, g'⟩⟩
        unfold Eng.push
        exact Tells.neg hb (Tells.bind hr (Tells.neg (by decide) (Tells.neg (by simpa using hv) (Tells.pos ⟨by omega, hst⟩ (Tells.bind t' (Tells.const _))))))
      · refine ⟨E, false, ?_, h, fun _ => ⟨rfl, .inr (.inr hv)⟩, fun e => (by cases e)⟩
        unfold Eng.push
        exact Tells.neg hb (Tells.bind hr (Tells.neg (by decide) (Tells.pos hv (Tells.const _))))
    · have hne : clauseErr [l] E.n ≠ 0 := fun e => hi ((clauseErr_one _ _).1 e)
      refine ⟨E, false, ?_, h, fun _ => ⟨rfl, .inr (.inl hi)⟩, fun e => (by cases e)⟩
      unfold Eng.push
      exact Tells.neg hb (Tells.bind hr (Tells.pos hne (Tells.const _)))
theorem Fine.popped {E : Eng} (h : Fine E) (a : Nat) : Fine (E.popped a) := by
  obtain ⟨s1, s2, s3, s4, s5, s6, s7, s8⟩ := E.dels_same (E.tr.drop a)
  have hta : E.tr = E.tr.take a ++ E.tr.drop a := (List.take_append_drop a E.tr).symm
  have hnd := h.nd
  rw [hta, List.nodup_append] at hnd
  refine ⟨?_, ?_, fun x hx => ?_, fun x => ?_, hnd.1, fun x hx => ?_, fun x i hi => ?_⟩
  · show 0 ≤ (E.dels (E.tr.drop a)).n ∧ (E.dels (E.tr.drop a)).n ≤ 1024
    rw [s4]; exact h.n0
  · show ∀ c ∈ (E.dels (E.tr.drop a)).cls, ∀ x ∈ c, InN (E.dels (E.tr.drop a)).n x
    rw [s1, s4]; exact h.cls
  · show InN (E.dels (E.tr.drop a)).n x
    rw [s4]
    exact h.tr x (List.mem_of_mem_take hx)
  · show ((E.dels (E.tr.drop a)).ms x).isSome = true ↔ x ∈ E.tr.take a
    rw [s8]
    by_cases hd : x ∈ E.tr.drop a
    · rw [if_pos hd]
      exact ⟨fun e => (by cases e), fun e => absurd rfl (hnd.2.2 x e x hd)⟩
    · rw [if_neg hd, h.mks x]
      refine ⟨fun e => ?_, fun e => List.mem_of_mem_take e⟩
      rw [hta] at e
      exact (List.mem_append.1 e).resolve_right hd
  · show -x ∉ E.tr.take a
    exact fun e => h.con x (List.mem_of_mem_take hx) (List.mem_of_mem_take e)
  · have hi : i ∈ (E.dels (E.tr.drop a)).wt x := hi
    show 0 ≤ i ∧ i.toNat < (E.dels (E.tr.drop a)).cls.length
    rw [s7] at hi
    rw [s1]
    exact h.wt x i hi
theorem layW_wt (n : Int) : ∀ (c : List Int) (E : Eng) (y i : Int), i ∈ (E.layW n c).wt y → i ∈ E.wt y ∨ i = n
  | [], E, y, i, h => .inl h
  | x :: c, E, y, i, h => by
    have h : i ∈ ((E.wput n x).layW n c).wt y := h
    rcases layW_wt n c (E.wput n x) y i h with h | h
    · have h : i ∈ (if y = x then E.wt x ++ [n] else E.wt y) := h
      by_cases e : y = x
      · rw [if_pos e] at h
        rcases List.mem_append.1 h with h | h
        · exact .inl (by rw [e]; exact h)
        · exact .inr (List.mem_singleton.1 h)
      · rw [if_neg e] at h
        exact .inl h
    · exact .inr h
theorem Fine.laid {E : Eng} (h : Fine E) {c : List Int} (hc : ∀ x ∈ c, InN E.n x) : Fine (E.laid c) := by
  obtain ⟨l1, l2, l3, l4, l5, l6, l7⟩ := E.laid_same c
  refine ⟨by rw [l5]; exact h.n0, fun d hd x hx => ?_, fun x hx => ?_, fun x => by rw [l6, l2]; exact h.mks x, by rw [l2]; exact h.nd, fun x hx => ?_, fun x i hi => ?_⟩
  · rw [l3] at hd
    rw [l5]
    rcases List.mem_append.1 hd with hd | hd
    · exact h.cls d hd x hx
    · rw [List.mem_singleton.1 hd] at hx
      exact hc x hx
  · rw [l2] at hx
    rw [l5]
    exact h.tr x hx
  · rw [l2] at hx ⊢
    exact h.con x hx
  · have hi : i ∈ (E.layW (E.cls.length : Int) c).wt x := hi
    rw [l3, List.length_append, List.length_singleton]
    rcases layW_wt _ c E x i hi with hi | hi
    · obtain ⟨h1, h2⟩ := h.wt x i hi
      exact ⟨h1, by omega⟩
    · rw [hi]
      exact ⟨by omega, by omega⟩
theorem cleanL_InN {n : Int} {c : List Int} (h : ∀ x ∈ c, InN n x) : ∀ x ∈ cleanL c, InN n x := fun x hx => h x (cleanL_mem.1 hx).1
theorem InN.isL {n x : Int} (h : InN n x) (hn : n ≤ 1024) : isL x = true := by
  unfold InN at h
  unfold Pu.isL
  rw [decide_eq_true_eq]
  omega
theorem lays_some : ∀ (l : List (List Int)) (E : Eng), Fine E → (∀ c ∈ l, (∀ x ∈ c, InN E.n x) ∧ c.length ≤ 64) → E.ws + 64 * l.length < 4398046511104 → E.cls.length + l.length < 5864062014805 →
    ∃ E', Eng.lays l E = some E' ∧ Fine E' ∧ E'.n = E.n ∧ E'.st = E.st ∧ E'.tr = E.tr ∧ E'.br = E.br ∧ E'.cls = E.cls ++ l.map cleanL ∧ E'.ws ≤ E.ws + 64 * l.length
  | [], E, h, _, _, _ => ⟨E, rfl, h, rfl, rfl, rfl, rfl, by simp, by simp⟩
  | c :: l, E, h, hc, hw, hl => by
    obtain ⟨h1, h2⟩ := hc c (by simp)
    obtain ⟨l1, l2, l3, l4, l5, l6, l7⟩ := E.laid_same (cleanL c)
    have hcl := lit_Clean_eq c (fun x hx => (h1 x hx).wf h.n0.2) (by omega)
    have hlen := cleanL_length c
    rw [List.length_cons] at hw hl
    obtain ⟨E', e1, e2, e3, e4, e5, e6, e7, e8⟩ := lays_some l (E.laid (cleanL c)) (h.laid (cleanL_InN h1)) (fun d hd => by rw [l5]; exact hc d (List.mem_cons_of_mem _ hd)) (by rw [l7]; omega) (by rw [l3, List.length_append, List.length_singleton]; omega)
    refine ⟨E', ?_, e2, e3.trans l5, e4.trans l4, e5.trans l2, e6.trans l1, ?_, ?_⟩
    · show ((lit_Clean.f c).bind fun r => if E.ws + r.1.length < 4398046511104 ∧ E.cls.length + 1 < 5864062014805 then Eng.lays l (E.laid r.1) else none) = some E'
      rw [hcl]
      show (if E.ws + (cleanL c).length < 4398046511104 ∧ E.cls.length + 1 < 5864062014805 then Eng.lays l (E.laid (cleanL c)) else none) = some E'
      rw [if_pos ⟨by omega, by omega⟩]
      exact e1
    · rw [e7, l3, List.append_assoc]; rfl
    · rw [l7] at e8
      rw [List.length_cons]
      omega
theorem fresh_fine {n : Int} (h : 0 ≤ n ∧ n ≤ 1024) : Fine (Eng.fresh n) := ⟨h, fun c hc => by simp [Eng.fresh] at hc, fun x hx => by simp [Eng.fresh] at hx, fun x => by simp [Eng.fresh], by simp [Eng.fresh], fun x hx => by simp [Eng.fresh] at hx, fun x i hi => by simp [Eng.fresh] at hi⟩
theorem clauseErr_InN {c : List Int} {n : Int} (h : clauseErr c n = 0) : (∀ x ∈ c, InN n x) ∧ c.length ≤ 64 := by
  unfold clauseErr at h
  by_cases h1 : c.length > 64
  · rw [if_pos h1] at h; exact absurd h (by decide)
  · rw [if_neg h1] at h
    by_cases h2 : c.any (badLit n) = true
    · rw [if_pos h2] at h; exact absurd h (by decide)
    · refine ⟨fun x hx => badLit_InN.1 ?_, by omega⟩
      cases hb : badLit n x with
      | false => rfl
      | true => exact absurd (List.any_eq_true.2 ⟨x, hx, hb⟩) h2
theorem add_tells {E : Eng} (h : Fine E) {c : List Int} (hc : ∀ x ∈ c, I64 x) (hcs : c.length < 17592186044416) (hws : E.ws + 64 < 4398046511104) :
    ∃ E' f, Tells (fun k => Eng.add k E c) (E', f) ∧ Fine E' ∧ (f ≠ 0 → E' = E) ∧ (f = 0 → ((∀ x ∈ c, InN E.n x) ∧ c.length ≤ 64) ∧ E.cls.length < 4096 ∧ Grew (E.laid (cleanL c)) E') := by
  have hr := lit_Right_tells c E.n hc (I64n h) (by omega)
  by_cases h0 : clauseErr c E.n = 0
  · obtain ⟨g1, g2⟩ := clauseErr_InN h0
    by_cases hl : E.cls.length ≥ 4096
    · refine ⟨E, 2, ?_, h, fun _ => rfl, fun e => absurd e (by decide)⟩
      unfold Eng.add
      exact Tells.bind hr (Tells.neg (by simpa using h0) (Tells.pos hl (Tells.const _)))
    · have hlen := cleanL_length c
      have hs := h.short
      have hf := h.laid (cleanL_InN g1)
      have hcl := lit_Clean_eq c hc hcs
      obtain ⟨l1, l2, l3, l4, l5, l6, l7⟩ := E.laid_same (cleanL c)
      by_cases hb : E.br < 0
      · obtain ⟨a1, a2⟩ := hf.look (n := E.cls.length) (by rw [l3]; simp)
        obtain ⟨E', t', f', g'⟩ := follow_tells 2050 E.tr.length _ (by omega) a1
        refine ⟨E', 0, ?_, f', fun e => absurd rfl e, fun _ => ⟨⟨g1, g2⟩, by omega, a2.trans g'⟩⟩
        unfold Eng.add
        refine Tells.bind hr (Tells.neg (by simpa using h0) (Tells.neg hl ?_))
        rw [hcl]
        exact Tells.bind (Tells.const _) (Tells.pos ⟨by show E.ws + (cleanL c).length < _; omega, by omega⟩ (Tells.pos hb (Tells.bind t' (Tells.const _))))
      · refine ⟨E.laid (cleanL c), 0, ?_, hf, fun e => absurd rfl e, fun _ => ⟨⟨g1, g2⟩, by omega, Grew.refl _⟩⟩
        unfold Eng.add
        refine Tells.bind hr (Tells.neg (by simpa using h0) (Tells.neg hl ?_))
        rw [hcl]
        exact Tells.bind (Tells.const _) (Tells.pos ⟨by show E.ws + (cleanL c).length < _; omega, by omega⟩ (Tells.neg hb (Tells.const _)))
  · refine ⟨E, clauseErr c E.n, ?_, h, fun _ => rfl, fun e => absurd e h0⟩
    unfold Eng.add
    exact Tells.bind hr (Tells.pos h0 (Tells.const _))
theorem cnf_Right_loop (l : List (List Int)) (n : Int) (hl : Rows64 l) (hn : I64 n) : ∀ (m i : Nat), m + i = l.length →
    ∃ x, Tells (fun k => cnf_Right.l0 k l (l.length : Int) (i : Int) n l) (x, clausesErr n (l.drop i))
  | 0, i, h => by
    refine ⟨0, Tells.succ (fun k => by rw [cnf_Right.l0]) (Tells.neg (by omega) ?_)⟩
    rw [List.drop_of_length_le (by omega)]; exact Tells.const _
  | m + 1, i, h => by
    have hi : i < l.length := by omega
    have hc := hl.2 _ (List.getElem_mem hi)
    have hR := lit_Right_tells l[i] n hc.2 hn hc.1
    rw [List.drop_eq_getElem_cons hi, clausesErr]
    by_cases hz : clauseErr l[i] n = 0
    · obtain ⟨x, hx⟩ := cnf_Right_loop l n hl hn m (i + 1) (by omega)
      refine ⟨x, Tells.succ (fun k => by rw [cnf_Right.l0]) (Tells.pos (by omega) (Tells.pos (by omega) (Tells.pos (by omega) ?_)))⟩
      rw [rdL_at _ _ hi, w64s hi hl.1]
      refine Tells.bind hR (Tells.pos hz ?_)
      rw [if_pos hz]; exact hx
    · refine ⟨(i : Int), Tells.succ (fun k => by rw [cnf_Right.l0]) (Tells.pos (by omega) (Tells.pos (by omega) (Tells.pos (by omega) ?_)))⟩
      rw [rdL_at _ _ hi]
      refine Tells.bind hR (Tells.neg hz ?_)
      rw [if_neg hz]; exact Tells.const _
theorem cnf_Right_tells (n : Int) (l : List (List Int)) (hl : Rows64 l) (hn : I64 n) : ∃ x, Tells (fun k => cnf_Right.f k n l) (x, setErr n l) := by
  unfold cnf_Right.f setErr
  have stop : ∀ n : Int, Tells (fun k => cnf_Right.j0 k true n l) (-1, 1) := fun n => Tells.succ (fun k => by rw [cnf_Right.j0]) (Tells.pos rfl (Tells.const _))
  by_cases h0 : n < 0
  · rw [if_pos (by omega)]
    exact ⟨_, Tells.pos h0 (stop n)⟩
  by_cases h1 : n > 1024
  · rw [if_pos (by omega)]
    refine ⟨-1, Tells.neg h0 ?_⟩
    rw [decide_eq_true h1]; exact stop n
  rw [if_neg (by omega)]
  by_cases h2 : l.length > 4096
  · rw [if_pos h2]
    refine ⟨-1, Tells.neg h0 ?_⟩
    rw [decide_eq_false h1]
    exact Tells.succ (fun k => by rw [cnf_Right.j0]) (Tells.neg (by decide) (Tells.pos (by omega) (Tells.const _)))
  · rw [if_neg h2]
    obtain ⟨x, hx⟩ : ∃ x, Tells (fun k => cnf_Right.l0 k l (l.length : Int) 0 n l) (x, clausesErr n l) := cnf_Right_loop l n hl hn l.length 0 rfl
    refine ⟨x, Tells.neg h0 ?_⟩
    rw [decide_eq_false h1]
    exact Tells.succ (fun k => by rw [cnf_Right.j0]) (Tells.neg (by decide) (Tells.neg (by omega) hx))
theorem clausesErr_InN {n : Int} : ∀ {l : List (List Int)}, clausesErr n l = 0 → ∀ c ∈ l, (∀ x ∈ c, InN n x) ∧ c.length ≤ 64
  | [], _, c, hc => by simp at hc
  | d :: l, h, c, hc => by
    have h : (if clauseErr d n = 0 then clausesErr n l else clauseErr d n) = 0 := by
      have := h
      unfold clausesErr at this
      first | exact this | (split at this <;> simp_all)
    by_cases hd : clauseErr d n = 0
    · rw [if_pos hd] at h
      rcases List.mem_cons.1 hc with e | hc
      · rw [e]; exact clauseErr_InN hd
      · exact clausesErr_InN h c hc
    · rw [if_neg hd] at h; exact absurd h hd
theorem setErr_InN {n : Int} {l : List (List Int)} (h : setErr n l = 0) : (0 ≤ n ∧ n ≤ 1024) ∧ l.length ≤ 4096 ∧ ∀ c ∈ l, (∀ x ∈ c, InN n x) ∧ c.length ≤ 64 := by
  unfold setErr at h
  by_cases h1 : n < 0 ∨ n > 1024
  · rw [if_pos h1] at h; exact absurd h (by decide)
  · rw [if_neg h1] at h
    by_cases h2 : l.length > 4096
    · rw [if_pos h2] at h; exact absurd h (by decide)
    · rw [if_neg h2] at h
      exact ⟨by omega, by omega, clausesErr_InN h⟩
theorem new_tells {n : Int} {l : List (List Int)} (hn : I64 n) (hl : Rows64 l) (h : setErr n l = 0) : ∃ E0 E, Tells (fun k => Eng.new k n l) (E, 0) ∧ Fine E ∧ E0.n = n ∧ E0.st = [] ∧ E0.tr = [] ∧ E0.br = -1 ∧ E0.cls = l.map cleanL ∧ E0.ws ≤ 64 * l.length ∧ Grew E0 E := by
  obtain ⟨s1, s2, s3⟩ := setErr_InN h
  obtain ⟨x, hx⟩ := cnf_Right_tells n l hl hn
  rw [h] at hx
  obtain ⟨E0, e1, e2, e3, e4, e5, e6, e7, e8⟩ := lays_some l (Eng.fresh n) (fresh_fine s1) s3 (by show 0 + 64 * l.length < _; omega) (by show 0 + l.length < _; omega)
  obtain ⟨E, t', f', g'⟩ := settle_tells e2
  refine ⟨E0, E, ?_, f', e3, e4, e5, e6, by rw [e7]; rfl, by simpa [Eng.fresh] using e8, g'⟩
  unfold Eng.new
  refine Tells.bind hx (Tells.neg (by simp) ?_)
  rw [e1]
  exact Tells.bind (Tells.const _) (Tells.bind t' (Tells.const _))
structure Sound (E : Eng) (all : List (List Int)) (pushed : List Int) : Prop where
  len : E.st.length = pushed.length
  cls : ∀ tv, (∀ c ∈ all, Sat tv c) → ∀ c ∈ E.cls, Sat tv c
  low : ∀ (i : Nat) (a : Int), E.st[i]? = some a → ∀ tv, Neg E.n tv → (∀ c ∈ all, Sat tv c) → (∀ y ∈ pushed.take i, tv y = true) → ∀ y ∈ E.tr.take a.toNat, tv y = true
  top : ∀ tv, Neg E.n tv → (∀ c ∈ all, Sat tv c) → (∀ y ∈ pushed, tv y = true) → Ok tv E
  lev : ∀ a ∈ E.st, 0 ≤ a ∧ a.toNat ≤ E.tr.length
  up : E.st.Pairwise (· ≤ ·)
section
variable {P : Eng → Prop}
theorem looks_keeps (hP : ∀ E n, P E → E.br < 0 → n < E.cls.length → P (E.look n)) : ∀ (l : List Int) (E E' : Eng) (b : Bool), Eng.looks l E = some (E', b) → P E → P E'
  | [], E, E', b, h, p => by
    have h : some (E, false) = some (E', b) := h
    injection h with h
    injection h with h _
    rw [← h]; exact p
  | n :: t, E, E', b, h, p => by
    have h : (if E.br ≥ 0 then some (E, true) else if 0 ≤ n ∧ n.toNat < E.cls.length ∧ E.tr.length < 4398046511104 then Eng.looks t (E.look n.toNat) else none) = some (E', b) := h
    by_cases hb : E.br ≥ 0
    · rw [if_pos hb] at h
      injection h with h
      injection h with h _
      rw [← h]; exact p
    · rw [if_neg hb] at h
      split at h
      · rename_i hc
        exact looks_keeps hP t _ _ _ h (hP E n.toNat p (by omega) hc.2.1)
      · cases h
theorem follow_keeps (hP : ∀ E n, P E → E.br < 0 → n < E.cls.length → P (E.look n)) : ∀ (k : Nat) (E E' : Eng) (i : Nat), Eng.follow k E i = some E' → P E → P E'
  | 0, E, E', i, h, p => by cases h
  | k + 1, E, E', i, h, p => by
    rw [Eng.follow] at h
    split at h
    · obtain ⟨⟨E1, b⟩, h1, h2⟩ := Option.bind_eq_some_iff.mp h
      have p1 := looks_keeps hP _ _ _ _ h1 p
      have h2 : (if b = true then some E1 else Eng.follow k E1 (i + 1)) = some E' := h2
      split at h2
      · injection h2 with h2
        rw [← h2]; exact p1
      · exact follow_keeps hP k _ _ _ h2 p1
    · injection h with h
      rw [← h]; exact p
theorem scan_keeps (hP : ∀ E n, P E → E.br < 0 → n < E.cls.length → P (E.look n)) : ∀ (m n : Nat) (E E' : Eng), n + m ≤ E.cls.length → Eng.scan m n E = some E' → P E → P E'
  | 0, n, E, E', _, h, p => by
    have h : some E = some E' := h
    injection h with h
    rw [← h]; exact p
  | m + 1, n, E, E', hn, h, p => by
    have h : (if E.br < 0 then (if E.tr.length < 4398046511104 then Eng.scan m (n + 1) (E.look n) else none) else some E) = some E' := h
    by_cases hb : E.br < 0
    · rw [if_pos hb] at h
      split at h
      · exact scan_keeps hP m (n + 1) _ _ (by rw [(E.look_cls n).1]; omega) h (hP E n p hb (by omega))
      · cases h
    · rw [if_neg hb] at h
      injection h with h
      rw [← h]; exact p
theorem settle_keeps (hP : ∀ E n, P E → E.br < 0 → n < E.cls.length → P (E.look n)) {k : Nat} {E E' : Eng} (h : Eng.settle k E = some E') (p : P E) : P E' := by
  unfold Eng.settle at h
  obtain ⟨E1, h1, h2⟩ := Option.bind_eq_some_iff.mp h
  exact follow_keeps hP _ _ _ _ h2 (scan_keeps hP _ _ _ _ (by omega) h1 p)
end
theorem push_inv {k : Nat} {E E' : Eng} {l : Int} (h : Eng.push k E l = some (E', true)) : E.br < 0 ∧ E.val l = 0 ∧ Eng.follow k (pushed0 E l) E.tr.length = some E' := by
  unfold Eng.push at h
  by_cases h1 : E.br ≥ 0
  · rw [if_pos h1] at h
    injection h with h
    injection h with _ h
    cases h
  · rw [if_neg h1] at h
    obtain ⟨q, _, h⟩ := Option.bind_eq_some_iff.mp h
    split at h
    · injection h with h
      injection h with _ h
      cases h
    · split at h
      · injection h with h
        injection h with _ h
        cases h
      · rename_i h3
        split at h
        · obtain ⟨z, hz, h⟩ := Option.bind_eq_some_iff.mp h
          injection h with h
          injection h with h _
          rw [← h]
          exact ⟨by omega, Decidable.not_not.1 h3, hz⟩
        · cases h
theorem pop_inv {k : Nat} {E E' : Eng} (h : Eng.pop k E = some (E', true)) : ∃ ss a, E.st = ss ++ [a] ∧ Eng.settle k (E.popped a.toNat) = some E' := by
  unfold Eng.pop at h
  cases hst : E.st.getLast? with
  | none =>
    rw [hst] at h
    injection h with h
    injection h with _ h
    cases h
  | some a =>
    rw [hst] at h
    obtain ⟨ss, hss⟩ := List.getLast?_eq_some_iff.1 hst
    have h : (if 0 ≤ a ∧ a.toNat ≤ E.tr.length then (Eng.settle k (E.popped a.toNat)).bind fun E' => some (E', true) else none) = some (E', true) := h
    split at h
    · obtain ⟨z, hz, h⟩ := Option.bind_eq_some_iff.mp h
      injection h with h
      injection h with h _
      rw [← h]
      exact ⟨ss, a, hss, hz⟩
    · cases h
theorem add_inv {k : Nat} {E E' : Eng} {c : List Int} (hc : ∀ x ∈ c, I64 x) (hcs : c.length < 17592186044416) (h : Eng.add k E c = some (E', 0)) :
    (E.br < 0 → Eng.follow k ((E.laid (cleanL c)).look E.cls.length) E.tr.length = some E') ∧ (E.br ≥ 0 → E' = E.laid (cleanL c)) := by
  unfold Eng.add at h
  obtain ⟨q, _, h⟩ := Option.bind_eq_some_iff.mp h
  split at h
  · rename_i h1
    injection h with h
    injection h with _ h
    exact absurd h h1
  · split at h
    · injection h with h
      injection h with _ h
      exact absurd h (by decide)
    · rw [lit_Clean_eq c hc hcs] at h
      obtain ⟨r, hr, h⟩ := Option.bind_eq_some_iff.mp h
      injection hr with hr
      rw [← hr] at h
      split at h
      · split at h
        · rename_i hb
          obtain ⟨z, hz, h⟩ := Option.bind_eq_some_iff.mp h
          injection h with h
          injection h with h _
          rw [← h]
          exact ⟨fun _ => hz, fun h => by omega⟩
        · rename_i hb
          injection h with h
          injection h with h _
          exact ⟨fun h => absurd h hb, fun _ => h.symm⟩
      · cases h
def Quiet (E : Eng) (c : List Int) : Prop := scanU E c 0 = none
theorem scan_none {E : Eng} : ∀ (c : List Int) (o : Int), (∀ x ∈ c, x ≠ 0) → (scanU E c o = none ↔ (∃ x ∈ c, E.val x > 0) ∨ 2 ≤ (c.filter fun x => decide (E.val x = 0)).length + (if o = 0 then 0 else 1))
  | [], o, _ => by
    refine ⟨fun h => (by cases h), fun h => ?_⟩
    rcases h with ⟨x, hx, _⟩ | h
    · cases hx
    · simp at h
      split at h <;> omega
  | l :: t, o, hc => by
    have ht : ∀ x ∈ t, x ≠ 0 := fun x hx => hc x (List.mem_cons_of_mem _ hx)
    have hl : l ≠ 0 := hc l (by simp)
    show (if E.val l > 0 then none else if E.val l = 0 then (if o = 0 then scanU E t l else none) else scanU E t o) = none ↔ _
    rcases E.val_or l with hv | hv | hv
    · rw [hv, if_pos (by decide)]
      exact ⟨fun _ => .inl ⟨l, by simp, by rw [hv]; decide⟩, fun _ => rfl⟩
    · rw [hv, if_neg (by decide), if_pos rfl, List.filter_cons_of_pos (by simpa using hv), List.length_cons]
      have ex : (∃ x ∈ l :: t, E.val x > 0) ↔ ∃ x ∈ t, E.val x > 0 := by
        refine ⟨fun ⟨x, hx, h⟩ => ?_, fun ⟨x, hx, h⟩ => ⟨x, List.mem_cons_of_mem _ hx, h⟩⟩
        rcases List.mem_cons.1 hx with e | hx
        · rw [e, hv] at h; exact absurd h (by decide)
        · exact ⟨x, hx, h⟩
      rw [ex]
      by_cases ho : o = 0
      · rw [if_pos ho, if_pos ho, scan_none t l ht, if_neg hl]
      · rw [if_neg ho, if_neg ho]
        exact ⟨fun _ => .inr (by omega), fun _ => rfl⟩
    · rw [hv, if_neg (by decide), if_neg (by decide), List.filter_cons_of_neg (by rw [hv]; decide)]
      have ex : (∃ x ∈ l :: t, E.val x > 0) ↔ ∃ x ∈ t, E.val x > 0 := by
        refine ⟨fun ⟨x, hx, h⟩ => ?_, fun ⟨x, hx, h⟩ => ⟨x, List.mem_cons_of_mem _ hx, h⟩⟩
        rcases List.mem_cons.1 hx with e | hx
        · rw [e, hv] at h; exact absurd h (by decide)
        · exact ⟨x, hx, h⟩
      rw [ex]
      exact scan_none t o ht
theorem quiet_iff {E : Eng} {c : List Int} (hc : ∀ x ∈ c, x ≠ 0) : Quiet E c ↔ (∃ x ∈ c, E.val x > 0) ∨ 2 ≤ (c.filter fun x => decide (E.val x = 0)).length := by
  unfold Quiet
  rw [scan_none c 0 hc, if_pos rfl, Nat.add_zero]
theorem quiet_congr {E E' : Eng} {c : List Int} (h : ∀ x ∈ c, E'.val x = E.val x) : ∀ o, scanU E' c o = scanU E c o := by
  induction c with
  | nil => exact fun _ => rfl
  | cons l t ih =>
    intro o
    have ih := ih (fun x hx => h x (List.mem_cons_of_mem _ hx))
    show (if E'.val l > 0 then none else if E'.val l = 0 then (if o = 0 then scanU E' t l else none) else scanU E' t o) = (if E.val l > 0 then none else if E.val l = 0 then (if o = 0 then scanU E t l else none) else scanU E t o)
    rw [h l (by simp), ih, ih]
section
variable {E : Eng}
theorem Fine.val_put (h : Fine E) {l : Int} (hl : InN E.n l) (hv : E.val l = 0) (why : Int) {x : Int} (hx : InN E.n x) : (E.put l why).val x = if x = l then 1 else if x = -l then -1 else E.val x := by
  have hp := h.put hl hv why
  rw [hp.val hx, h.val hx]
  show (if x ∈ E.tr ++ [l] then (1 : Int) else if -x ∈ E.tr ++ [l] then -1 else 0) = _
  have hv2 := h.val hl
  rw [hv] at hv2
  have h1 : l ∉ E.tr := fun e => by rw [if_pos e] at hv2; exact absurd hv2 (by decide)
  have h2 : -l ∉ E.tr := fun e => by rw [if_neg h1, if_pos e] at hv2; exact absurd hv2 (by decide)
  have h0 : l ≠ 0 := hl.1
  simp only [List.mem_append, List.mem_singleton]
  by_cases e1 : x = l
  · rw [if_pos (.inr e1), if_pos e1]
  · rw [if_neg e1]
    by_cases e2 : x = -l
    · rw [if_pos e2, if_neg (fun h => h.elim (fun h => h2 (e2 ▸ h)) e1), if_pos (.inr (by omega))]
    · rw [if_neg e2]
      have n1 : ¬ (-x = l) := fun e => e2 (by omega)
      by_cases e3 : x ∈ E.tr
      · rw [if_pos (.inl e3), if_pos e3]
      · rw [if_neg (fun h => h.elim e3 e1), if_neg e3]
        by_cases e4 : -x ∈ E.tr
        · rw [if_pos (.inl e4), if_pos e4]
        · rw [if_neg (fun h => h.elim e4 n1), if_neg e4]
theorem Fine.quiet_put (h : Fine E) {l : Int} (hl : InN E.n l) (hv : E.val l = 0) (why : Int) {c : List Int} (hc : ∀ x ∈ c, InN E.n x) (hq : Quiet E c) (hn : -l ∉ c) : Quiet (E.put l why) c := by
  have h0 : ∀ x ∈ c, x ≠ 0 := fun x hx => (hc x hx).1
  rw [quiet_iff h0] at hq ⊢
  by_cases hlc : l ∈ c
  · exact .inl ⟨l, hlc, by rw [h.val_put hl hv why hl, if_pos rfl]; decide⟩
  · have same : ∀ x ∈ c, (E.put l why).val x = E.val x := fun x hx => by
      rw [h.val_put hl hv why (hc x hx), if_neg (fun e : x = l => hlc (e ▸ hx)), if_neg (fun e : x = -l => hn (e ▸ hx))]
    rcases hq with ⟨x, hx, hp⟩ | hq
    · exact .inl ⟨x, hx, by rw [same x hx]; exact hp⟩
    · refine .inr ?_
      have : (c.filter fun x => decide ((E.put l why).val x = 0)) = c.filter fun x => decide (E.val x = 0) := List.filter_congr fun x hx => by rw [same x hx]
      rw [this]; exact hq
theorem Fine.put_quiet (h : Fine E) {l : Int} (hl : InN E.n l) (hv : E.val l = 0) (why : Int) {c : List Int} (hc : ∀ x ∈ c, InN E.n x) (hlc : l ∈ c) : Quiet (E.put l why) c := by
  rw [quiet_iff (fun x hx => (hc x hx).1)]
  exact .inl ⟨l, hlc, by rw [h.val_put hl hv why hl, if_pos rfl]; decide⟩
end
def Wts (E : Eng) : Prop := ∀ (j : Nat) (c : List Int), E.cls[j]? = some c → ∀ x ∈ c, (j : Int) ∈ E.wt x
def Pend (E : Eng) (m : Nat) (R : Nat → Prop) : Prop := ∀ (j : Nat) (c : List Int), E.cls[j]? = some c → ¬ Quiet E c → (∃ x ∈ c, -x ∈ E.tr.drop m) ∨ R j
def Still (E : Eng) : Prop := ∀ c ∈ E.cls, Quiet E c
theorem Pend.look {E : Eng} (h : Fine E) {m : Nat} (hm : m ≤ E.tr.length) {R : Nat → Prop} {n : Nat} (hn : n < E.cls.length) (hp : Pend E m R) (hb : (E.look n).br < 0) : Pend (E.look n) m (fun j => R j ∧ j ≠ n) := by
  have hcn : E.cls[n]? = some (E.cls.getD n []) := by rw [List.getD_eq_getElem?_getD, List.getElem?_eq_getElem hn]; rfl
  have hin : ∀ {c : List Int} {j : Nat}, E.cls[j]? = some c → ∀ x ∈ c, InN E.n x := fun hj x hx => h.cls _ (List.mem_of_getElem? hj) x hx
  unfold Eng.look at hb ⊢
  cases hs : scanU E (E.cls.getD n []) 0 with
  | none =>
    intro j c hj hq
    rcases hp j c hj hq with h1 | h1
    · exact .inl h1
    · refine .inr ⟨h1, fun e => hq ?_⟩
      rw [e, hcn] at hj
      injection hj with hj
      rw [← hj]; exact hs
  | some o =>
    rw [hs] at hb
    have hb : (if o = 0 then { E with br := (n : Int) } else E.put o (n : Int)).br < 0 := hb
    show Pend (if o = 0 then { E with br := (n : Int) } else E.put o (n : Int)) m (fun j => R j ∧ j ≠ n)
    obtain ⟨_, i2, i3⟩ := scan_some _ 0 o (fun x hx => (hin hcn x hx).1) hs
    by_cases ho : o = 0
    · rw [if_pos ho] at hb
      exact absurd hb (by show ¬ ((n : Int) < 0); omega)
    · rw [if_neg ho]
      obtain ⟨hmo, hvo⟩ := i3.resolve_left ho
      have hio := hin hcn o hmo
      intro j c hj hq
      have hj : E.cls[j]? = some c := hj
      by_cases hq0 : Quiet E c
      · refine .inl ⟨-o, ?_, ?_⟩
        · exact Classical.byContradiction fun hno => hq (h.quiet_put hio hvo _ (hin hj) hq0 hno)
        · show -(-o) ∈ (E.tr ++ [o]).drop m
          rw [Int.neg_neg, List.drop_append_of_le_length hm]
          simp
      · rcases hp j c hj hq0 with ⟨x, hx, hd⟩ | h1
        · refine .inl ⟨x, hx, ?_⟩
          show -x ∈ (E.tr ++ [o]).drop m
          rw [List.drop_append_of_le_length hm]
          exact List.mem_append_left _ hd
        · refine .inr ⟨h1, fun e => hq ?_⟩
          rw [e, hcn] at hj
          injection hj with hj
          rw [← hj]
          exact h.put_quiet hio hvo _ (hin hcn) hmo
theorem Grew.len {E E' : Eng} (g : Grew E E') : E.tr.length ≤ E'.tr.length := by
  obtain ⟨more, e⟩ := g.tr
  rw [e, List.length_append]; omega
theorem looks_pend {m : Nat} : ∀ (l : List Int) (E E' : Eng) (b : Bool), Eng.looks l E = some (E', b) → Fine E → m ≤ E.tr.length → (∀ i ∈ l, 0 ≤ i ∧ i.toNat < E.cls.length) → (E.br < 0 → Pend E m (fun j => (j : Int) ∈ l)) → E'.br < 0 → Pend E' m (fun _ => False) ∧ b = false
  | [], E, E', b, h, f, hm, _, hp, hb => by
    have h : some (E, false) = some (E', b) := h
    injection h with h
    injection h with h1 h2
    subst h1
    refine ⟨fun j c hj hq => ?_, h2.symm⟩
    rcases hp hb j c hj hq with h | h
    · exact .inl h
    · cases h
  | n :: t, E, E', b, h, f, hm, hl, hp, hb => by
    have h : (if E.br ≥ 0 then some (E, true) else if 0 ≤ n ∧ n.toNat < E.cls.length ∧ E.tr.length < 4398046511104 then Eng.looks t (E.look n.toNat) else none) = some (E', b) := h
    by_cases hbr : E.br ≥ 0
    · rw [if_pos hbr] at h
      injection h with h
      injection h with h1 h2
      subst h1
      omega
    · rw [if_neg hbr] at h
      obtain ⟨n0, n1⟩ := hl n (by simp)
      split at h
      · obtain ⟨g1, g2⟩ := f.look n1
        refine looks_pend t _ _ _ h g1 (Nat.le_trans hm g2.len) (fun i hi => by rw [g2.cls]; exact hl i (List.mem_cons_of_mem _ hi)) (fun hb1 => ?_) hb
        intro j c hj hq
        rcases Pend.look f hm n1 (hp (by omega)) hb1 j c hj hq with h | ⟨h, hne⟩
        · exact .inl h
        · rcases List.mem_cons.1 h with e | h
          · exact absurd (by omega) hne
          · exact .inr h
      · cases h
theorem follow_still : ∀ (k : Nat) (E E' : Eng) (i : Nat), Eng.follow k E i = some E' → Fine E → Wts E → (E.br < 0 → Pend E i (fun _ => False)) → E'.br < 0 → Still E'
  | 0, E, E', i, h, _, _, _, _ => by cases h
  | k + 1, E, E', i, h, f, hw, hp, hb => by
    rw [Eng.follow] at h
    split at h
    · rename_i hi
      obtain ⟨⟨E1, b⟩, h1, h2⟩ := Option.bind_eq_some_iff.mp h
      obtain ⟨y, hy⟩ : ∃ y, E.tr[i] = y := ⟨_, rfl⟩
      have hrd : rd E.tr (i : Int) = y := by simp [rd, hi, hy]
      have hin := f.tr y (by rw [← hy]; exact List.getElem_mem hi)
      rw [hrd, hin.w f.n0.2] at h1
      have hlk := looks_pend (m := i + 1) _ _ _ _ h1 f (by omega) (f.wt _) (fun hbr j c hj hq => by
        rcases hp hbr j c hj hq with ⟨x, hx, hd⟩ | h
        · rw [List.drop_eq_getElem_cons hi, hy] at hd
          rcases List.mem_cons.1 hd with e | hd
          · refine .inr ?_
            have : x = -y := by omega
            rw [← this]
            exact hw j c hj x hx
          · exact .inl ⟨x, hx, hd⟩
        · cases h)
      obtain ⟨E1', b', e1, e2, e3⟩ := looks_some (E.wt (-y)) E f (f.wt _)
      rw [h1] at e1
      injection e1 with e1
      injection e1 with e1 _
      subst e1
      have h2 : (if b = true then some E1 else Eng.follow k E1 (i + 1)) = some E' := h2
      split at h2
      · rename_i hbt
        injection h2 with h2
        subst h2
        rw [(hlk hb).2] at hbt
        cases hbt
      · exact follow_still k E1 E' (i + 1) h2 e2 (by unfold Wts; rw [e3.cls, e3.wt]; exact hw) (fun hb1 => (hlk hb1).1) hb
    · rename_i hi
      injection h with h
      subst h
      intro c hc
      obtain ⟨j, hj⟩ := List.mem_iff_getElem?.1 hc
      refine Classical.byContradiction fun hq => ?_
      rcases hp hb j c hj hq with ⟨x, _, hd⟩ | h
      · rw [List.drop_of_length_le (by omega)] at hd
        cases hd
      · exact h
theorem scan_pend {f0 : Nat} : ∀ (m n : Nat) (E E' : Eng), n + m = E.cls.length → Eng.scan m n E = some E' → Fine E → f0 ≤ E.tr.length → (E.br < 0 → Pend E f0 (fun j => n ≤ j)) → E'.br < 0 → Pend E' f0 (fun _ => False)
  | 0, n, E, E', hn, h, f, hf, hp, hb => by
    have h : some E = some E' := h
    injection h with h
    subst h
    intro j c hj hq
    rcases hp hb j c hj hq with h | h
    · exact .inl h
    · have := (List.getElem?_eq_some_iff.1 hj).1
      omega
  | m + 1, n, E, E', hn, h, f, hf, hp, hb => by
    have h : (if E.br < 0 then (if E.tr.length < 4398046511104 then Eng.scan m (n + 1) (E.look n) else none) else some E) = some E' := h
    by_cases hbr : E.br < 0
    · rw [if_pos hbr] at h
      split at h
      · obtain ⟨g1, g2⟩ := f.look (n := n) (by omega)
        refine scan_pend m (n + 1) _ _ (by rw [g2.cls]; omega) h g1 (Nat.le_trans hf g2.len) (fun hb1 => ?_) hb
        intro j c hj hq
        rcases Pend.look f hf (by omega) (hp hbr) hb1 j c hj hq with h | ⟨h, hne⟩
        · exact .inl h
        · exact .inr (by omega)
      · cases h
    · rw [if_neg hbr] at h
      injection h with h
      subst h
      omega
theorem settle_still {k : Nat} {E E' : Eng} (h : Eng.settle k E = some E') (f : Fine E) (hw : Wts E) (hb : E'.br < 0) : Still E' := by
  unfold Eng.settle at h
  obtain ⟨E1, h1, h2⟩ := Option.bind_eq_some_iff.mp h
  obtain ⟨E1', e1, e2, e3⟩ := scan_eng E.cls.length 0 E (by omega) f
  rw [h1] at e1
  injection e1 with e1
  subst e1
  exact follow_still k E1 E' E.tr.length h2 e2 (by unfold Wts; rw [e3.cls, e3.wt]; exact hw)
    (fun hb1 => scan_pend E.cls.length 0 E E1 (by omega) h1 f (Nat.le_refl _) (fun _ j c _ _ => .inr (Nat.zero_le _)) hb1) hb
theorem still_settle {k : Nat} {E : Eng} (h : Still E) (f : Fine E) : Eng.settle (k + 1) E = some E := by
  have same : ∀ (m n : Nat), n + m ≤ E.cls.length → Eng.scan m n E = some E := by
    intro m
    induction m with
    | zero => exact fun _ _ => rfl
    | succ m ih =>
      intro n hn
      show (if E.br < 0 then (if E.tr.length < 4398046511104 then Eng.scan m (n + 1) (E.look n) else none) else some E) = some E
      by_cases hb : E.br < 0
      · have hs := f.short
        have hl : E.look n = E := by
          unfold Eng.look
          have : scanU E (E.cls.getD n []) 0 = none := h _ (by rw [List.getD_eq_getElem?_getD, List.getElem?_eq_getElem (by omega)]; exact List.getElem_mem _)
          rw [this]
        rw [if_pos hb, if_pos (by omega), hl]
        exact ih (n + 1) (by omega)
      · rw [if_neg hb]
  unfold Eng.settle
  rw [same _ _ (by omega)]
  show Eng.follow (k + 1) E E.tr.length = some E
  rw [Eng.follow, if_neg (by omega)]
def cnt (st : List Int) (i : Nat) : Int := ((st.filter fun a => decide (a ≤ (i : Int))).length : Nat)
def Forced (cls : List (List Int)) (before : List Int) (x why : Int) : Prop := 0 ≤ why ∧ why.toNat < cls.length ∧ x ∈ cls.getD why.toNat [] ∧ ∀ y ∈ cls.getD why.toNat [], y ≠ x → -y ∈ before
def Just (E : Eng) : Prop := ∀ (i : Nat) (x : Int), E.tr[i]? = some x → ∃ why, E.ms x = some (cnt E.st i, why) ∧ ((i : Int) ∈ E.st → why = -1) ∧ ((i : Int) ∉ E.st → Forced E.cls (E.tr.take i) x why)
def Breaks (E : Eng) : Prop := (E.br < 0 → E.br = -1) ∧ (0 ≤ E.br → E.br.toNat < E.cls.length ∧ ∀ y ∈ E.cls.getD E.br.toNat [], -y ∈ E.tr)
structure Base (E : Eng) : Prop where
  fine : Fine E
  wts : Wts E
  inc : E.st.Pairwise (· < ·)
  low : ∀ a ∈ E.st, 0 ≤ a ∧ a.toNat < E.tr.length
  just : Just E
  brk : Breaks E
structure Well (E : Eng) : Prop extends Base E where
  still : E.br < 0 → Still E
theorem getD_at {α : Type} {l : List α} {n : Nat} {d : α} (h : n < l.length) : l[n]? = some (l.getD n d) := by
  rw [List.getD_eq_getElem?_getD, List.getElem?_eq_getElem h]; rfl
theorem getD_mem {α : Type} {l : List α} {n : Nat} {d : α} (h : n < l.length) : l.getD n d ∈ l := List.mem_of_getElem? (getD_at h)
section
variable {E : Eng}
theorem Fine.false_iff (h : Fine E) {x : Int} (hx : InN E.n x) (hv : E.val x = -1) : -x ∈ E.tr := by
  have hv2 := h.val hx
  rw [hv] at hv2
  by_cases e1 : x ∈ E.tr
  · rw [if_pos e1] at hv2; exact absurd hv2 (by decide)
  · rw [if_neg e1] at hv2
    by_cases e2 : -x ∈ E.tr
    · exact e2
    · rw [if_neg e2] at hv2; exact absurd hv2 (by decide)
theorem Fine.open_iff (h : Fine E) {x : Int} (hx : InN E.n x) (hv : E.val x = 0) : x ∉ E.tr ∧ -x ∉ E.tr := by
  have hv2 := h.val hx
  rw [hv] at hv2
  by_cases e1 : x ∈ E.tr
  · rw [if_pos e1] at hv2; exact absurd hv2 (by decide)
  · rw [if_neg e1] at hv2
    refine ⟨e1, fun e2 => ?_⟩
    rw [if_pos e2] at hv2; exact absurd hv2 (by decide)
theorem cnt_all {st : List Int} {i : Nat} (h : ∀ a ∈ st, a ≤ (i : Int)) : cnt st i = (st.length : Nat) := by
  unfold cnt
  rw [List.filter_eq_self.2 (fun a ha => decide_eq_true (h a ha))]
theorem Base.put (h : Base E) {l why : Int} (hl : InN E.n l) (hv : E.val l = 0) (hf : Forced E.cls E.tr l why) : Base (E.put l why) := by
  have ho := h.fine.open_iff hl hv
  refine ⟨h.fine.put hl hv why, h.wts, h.inc, fun a ha => ?_, fun i x hi => ?_, ⟨h.brk.1, fun hb => ?_⟩⟩
  · have := h.low a ha
    show 0 ≤ a ∧ a.toNat < (E.tr ++ [l]).length
    rw [List.length_append, List.length_singleton]
    omega
  · have hi2 : (E.tr ++ [l])[i]? = some x := hi
    clear hi
    show ∃ w, (if x = l then some ((E.st.length : Int), why) else E.ms x) = some (cnt E.st i, w) ∧ ((i : Int) ∈ E.st → w = -1) ∧ ((i : Int) ∉ E.st → Forced E.cls ((E.tr ++ [l]).take i) x w)
    rw [List.getElem?_append] at hi2
    by_cases hlt : i < E.tr.length
    · rw [if_pos hlt] at hi2
      have hne : x ≠ l := fun e => ho.1 (e ▸ List.mem_of_getElem? hi2)
      rw [if_neg hne, List.take_append_of_le_length (by omega)]
      exact h.just i x hi2
    · rw [if_neg hlt] at hi2
      have h0 : i - E.tr.length = 0 := by have := (List.getElem?_eq_some_iff.1 hi2).1; simp at this; omega
      rw [h0] at hi2
      simp at hi2
      have e : i = E.tr.length := by omega
      subst e
      rw [if_pos hi2.symm]
      refine ⟨why, ?_, fun hm => ?_, fun _ => ?_⟩
      · rw [cnt_all (fun a ha => by have := h.low a ha; omega)]
      · have := h.low _ hm
        omega
      · rw [List.take_append_of_le_length (Nat.le_refl _), List.take_length, ← hi2]
        exact hf
  · have := h.brk.2 hb
    refine ⟨this.1, fun y hy => ?_⟩
    show -y ∈ E.tr ++ [l]
    exact List.mem_append_left _ (this.2 y hy)
theorem Base.look (h : Base E) {n : Nat} (hn : n < E.cls.length) : Base (E.look n) := by
  have hcn := getD_at (d := ([] : List Int)) hn
  have hin : ∀ x ∈ E.cls.getD n [], InN E.n x := fun x hx => h.fine.cls _ (getD_mem hn) x hx
  unfold Eng.look
  cases hs : scanU E (E.cls.getD n []) 0 with
  | none => exact h
  | some o =>
    obtain ⟨_, i2, i3⟩ := scan_some _ 0 o (fun x hx => (hin x hx).1) hs
    show Base (if o = 0 then { E with br := (n : Int) } else E.put o (n : Int))
    by_cases ho : o = 0
    · rw [if_pos ho]
      refine ⟨h.fine.br _, h.wts, h.inc, h.low, h.just, ⟨fun hb => absurd hb (by show ¬ ((n : Int) < 0); omega), fun _ => ⟨?_, fun y hy => ?_⟩⟩⟩
      · show ((n : Int)).toNat < E.cls.length
        rw [Int.toNat_natCast]; exact hn
      · have hy : y ∈ E.cls.getD ((n : Int)).toNat [] := hy
        rw [Int.toNat_natCast] at hy
        show -y ∈ E.tr
        rcases i2 y hy with hv | e
        · exact h.fine.false_iff (hin y hy) hv
        · exact absurd (e.trans ho) (hin y hy).1
    · rw [if_neg ho]
      obtain ⟨hmo, hvo⟩ := i3.resolve_left ho
      refine h.put (hin o hmo) hvo ⟨by omega, by rw [Int.toNat_natCast]; exact hn, by rw [Int.toNat_natCast]; exact hmo, fun y hy hne => ?_⟩
      rw [Int.toNat_natCast] at hy
      rcases i2 y hy with hv | e
      · exact h.fine.false_iff (hin y hy) hv
      · exact absurd e hne
theorem base_looks : ∀ E n, Base E → E.br < 0 → n < E.cls.length → Base (E.look n) := fun _ _ h _ hn => h.look hn
theorem Base.pushed (h : Base E) {l : Int} (hl : InN E.n l) (hv : E.val l = 0) : Base (pushed0 E l) := by
  have ho := h.fine.open_iff hl hv
  have hf0 : Fine ({ E with st := E.st ++ [(E.tr.length : Int)] } : Eng) := ⟨h.fine.n0, h.fine.cls, h.fine.tr, h.fine.mks, h.fine.nd, h.fine.con, h.fine.wt⟩
  refine ⟨hf0.put (l := l) hl hv (-1), h.wts, ?_, fun a ha => ?_, fun i x hi => ?_, ⟨h.brk.1, fun hb => ?_⟩⟩
  · show (E.st ++ [(E.tr.length : Int)]).Pairwise (· < ·)
    rw [List.pairwise_append]
    exact ⟨h.inc, by simp, fun a ha b hb => by rw [List.mem_singleton.1 hb]; have := h.low a ha; omega⟩
  · have ha : a ∈ E.st ++ [(E.tr.length : Int)] := ha
    show 0 ≤ a ∧ a.toNat < (E.tr ++ [l]).length
    rw [List.length_append, List.length_singleton]
    rcases List.mem_append.1 ha with ha | ha
    · have := h.low a ha; omega
    · rw [List.mem_singleton.1 ha]; omega
  · have hi2 : (E.tr ++ [l])[i]? = some x := hi
    clear hi
    show ∃ w, (if x = l then some (((E.st ++ [(E.tr.length : Int)]).length : Int), (-1 : Int)) else E.ms x) = some (cnt (E.st ++ [(E.tr.length : Int)]) i, w) ∧ ((i : Int) ∈ E.st ++ [(E.tr.length : Int)] → w = -1) ∧ ((i : Int) ∉ E.st ++ [(E.tr.length : Int)] → Forced E.cls ((E.tr ++ [l]).take i) x w)
    rw [List.getElem?_append] at hi2
    by_cases hlt : i < E.tr.length
    · rw [if_pos hlt] at hi2
      have hne : x ≠ l := fun e => ho.1 (e ▸ List.mem_of_getElem? hi2)
      rw [if_neg hne, List.take_append_of_le_length (by omega)]
      obtain ⟨w, w1, w2, w3⟩ := h.just i x hi2
      have hc : cnt (E.st ++ [(E.tr.length : Int)]) i = cnt E.st i := by
        unfold cnt
        rw [List.filter_append, List.filter_cons_of_neg (by rw [decide_eq_true_eq]; omega), List.filter_nil, List.append_nil]
      have hm : (i : Int) ∈ E.st ++ [(E.tr.length : Int)] ↔ (i : Int) ∈ E.st := by
        rw [List.mem_append, List.mem_singleton]
        exact ⟨fun h => h.resolve_right (by omega), .inl⟩
      rw [hc, hm]
      exact ⟨w, w1, w2, w3⟩
    · rw [if_neg hlt] at hi2
      have h0 : i - E.tr.length = 0 := by have := (List.getElem?_eq_some_iff.1 hi2).1; simp at this; omega
      rw [h0] at hi2
      simp at hi2
      have e : i = E.tr.length := by omega
      subst e
      rw [if_pos hi2.symm]
      refine ⟨-1, ?_, fun _ => rfl, fun hm => absurd (by simp) hm⟩
      rw [cnt_all (fun a ha => by
        rcases List.mem_append.1 ha with ha | ha
        · have := h.low a ha; omega
        · rw [List.mem_singleton.1 ha]; omega)]
  · have := h.brk.2 hb
    refine ⟨this.1, fun y hy => ?_⟩
    show -y ∈ E.tr ++ [l]
    exact List.mem_append_left _ (this.2 y hy)
theorem getD_left {α : Type} {l m : List α} {n : Nat} {d : α} (h : n < l.length) : (l ++ m).getD n d = l.getD n d := by
  rw [List.getD_eq_getElem?_getD, List.getD_eq_getElem?_getD, List.getElem?_append_left h]
theorem Forced.more {cls more : List (List Int)} {b : List Int} {x why : Int} (h : Forced cls b x why) : Forced (cls ++ more) b x why := by
  obtain ⟨h1, h2, h3, h4⟩ := h
  refine ⟨h1, by rw [List.length_append]; omega, ?_, ?_⟩
  · rw [getD_left h2]; exact h3
  · rw [getD_left h2]; exact h4
theorem layW_up (n : Int) : ∀ (c : List Int) (E : Eng) (y i : Int), i ∈ E.wt y ∨ y ∈ c ∧ i = n → i ∈ (E.layW n c).wt y
  | [], E, y, i, h => h.elim id (fun h => by cases h.1)
  | x :: c, E, y, i, h => by
    show i ∈ ((E.wput n x).layW n c).wt y
    refine layW_up n c (E.wput n x) y i ?_
    show i ∈ (if y = x then E.wt x ++ [n] else E.wt y) ∨ _
    by_cases e : y = x
    · rw [if_pos e]
      rcases h with h | ⟨_, h⟩
      · exact .inl (List.mem_append_left _ (e ▸ h))
      · exact .inl (by rw [h]; simp)
    · rw [if_neg e]
      rcases h with h | ⟨h, h2⟩
      · exact .inl h
      · rcases List.mem_cons.1 h with h | h
        · exact absurd h e
        · exact .inr ⟨h, h2⟩
theorem Base.laid (h : Base E) {c : List Int} (hc : ∀ x ∈ c, InN E.n x) : Base (E.laid c) := by
  obtain ⟨l1, l2, l3, l4, l5, l6, l7⟩ := E.laid_same c
  refine ⟨h.fine.laid hc, fun j d hj x hx => ?_, by rw [l4]; exact h.inc, by rw [l4, l2]; exact h.low, fun i x hi => ?_, ⟨by rw [l1]; exact h.brk.1, fun hb => ?_⟩⟩
  · rw [l3] at hj
    show (j : Int) ∈ (E.layW (E.cls.length : Int) c).wt x
    refine layW_up _ c E x _ ?_
    rw [List.getElem?_append] at hj
    by_cases hlt : j < E.cls.length
    · rw [if_pos hlt] at hj
      exact .inl (h.wts j d hj x hx)
    · rw [if_neg hlt] at hj
      have h0 : j - E.cls.length = 0 := by have := (List.getElem?_eq_some_iff.1 hj).1; simp at this; omega
      rw [h0] at hj
      simp at hj
      exact .inr ⟨by rw [hj]; exact hx, by omega⟩
  · rw [l2] at hi
    rw [l6, l4, l3, l2]
    obtain ⟨w, w1, w2, w3⟩ := h.just i x hi
    exact ⟨w, w1, w2, fun hm => (w3 hm).more⟩
  · rw [l1] at hb ⊢
    obtain ⟨b1, b2⟩ := h.brk.2 hb
    rw [l3, l2]
    refine ⟨by rw [List.length_append]; omega, ?_⟩
    rw [getD_left b1]; exact b2
theorem Base.popped (h : Base E) {ss : List Int} {a : Int} (hs : E.st = ss ++ [a]) : Base (E.popped a.toNat) := by
  obtain ⟨s1, s2, s3, s4, s5, s6, s7, s8⟩ := E.dels_same (E.tr.drop a.toNat)
  have hst : (E.popped a.toNat).st = ss := by show E.st.dropLast = ss; rw [hs, List.dropLast_concat]
  have hcl : (E.popped a.toNat).cls = E.cls := s1
  have htr : (E.popped a.toNat).tr = E.tr.take a.toNat := rfl
  have hms : ∀ x, (E.popped a.toNat).ms x = if x ∈ E.tr.drop a.toNat then none else E.ms x := s8
  have hlow := h.low a (by rw [hs]; simp)
  have hinc := h.inc
  rw [hs, List.pairwise_append] at hinc
  have hss : ∀ b ∈ ss, 0 ≤ b ∧ b < a := fun b hb => ⟨(h.low b (by rw [hs]; simp [hb])).1, hinc.2.2 b hb a (by simp)⟩
  refine ⟨h.fine.popped _, fun j c hj x hx => ?_, by rw [hst]; exact hinc.1, fun b hb => ?_, fun i x hi => ?_, ⟨fun _ => rfl, fun hb => absurd hb (by show ¬ ((0 : Int) ≤ -1); decide)⟩⟩
  · rw [hcl] at hj
    show (j : Int) ∈ (E.dels (E.tr.drop a.toNat)).wt x
    rw [s7]
    exact h.wts j c hj x hx
  · rw [hst] at hb
    have := hss b hb
    rw [htr, List.length_take]
    omega
  · rw [htr, List.getElem?_take] at hi
    split at hi
    · rename_i hia
      have hnd := h.fine.nd
      rw [← List.take_append_drop a.toNat E.tr, List.nodup_append] at hnd
      have hx : x ∈ E.tr.take a.toNat := List.mem_of_getElem? (by rw [List.getElem?_take, if_pos hia]; exact hi)
      obtain ⟨w, w1, w2, w3⟩ := h.just i x hi
      have hc : cnt E.st i = cnt ss i := by
        unfold cnt
        rw [hs, List.filter_append, List.filter_cons_of_neg (by rw [decide_eq_true_eq]; omega), List.filter_nil, List.append_nil]
      have hm : (i : Int) ∈ E.st ↔ (i : Int) ∈ ss := by
        rw [hs, List.mem_append, List.mem_singleton]
        exact ⟨fun h => h.resolve_right (by omega), .inl⟩
      rw [hms, if_neg (fun hd => hnd.2.2 x hx x hd rfl), hst, hcl, htr, List.take_take, Nat.min_eq_left (by omega), ← hc, ← hm]
      exact ⟨w, w1, w2, w3⟩
    · cases hi
end
theorem base_fresh {n : Int} (h : 0 ≤ n ∧ n ≤ 1024) : Base (Eng.fresh n) := ⟨fresh_fine h, fun j c hj => by simp [Eng.fresh] at hj, by simp [Eng.fresh], fun a ha => by simp [Eng.fresh] at ha, fun i x hi => by simp [Eng.fresh] at hi, ⟨fun _ => rfl, fun hb => absurd hb (by show ¬ ((0 : Int) ≤ -1); decide)⟩⟩
theorem lays_base : ∀ (l : List (List Int)) (E E' : Eng), Eng.lays l E = some E' → Base E → (∀ c ∈ l, (∀ x ∈ c, InN E.n x) ∧ c.length ≤ 64) → Base E'
  | [], E, E', h, b, _ => by
    have h : some E = some E' := h
    injection h with h
    rw [← h]; exact b
  | c :: l, E, E', h, b, hc => by
    obtain ⟨h1, h2⟩ := hc c (by simp)
    have h : ((lit_Clean.f c).bind fun r => if E.ws + r.1.length < 4398046511104 ∧ E.cls.length + 1 < 5864062014805 then Eng.lays l (E.laid r.1) else none) = some E' := h
    rw [lit_Clean_eq c (fun x hx => (h1 x hx).wf b.fine.n0.2) (by omega)] at h
    obtain ⟨r, hr, h⟩ := Option.bind_eq_some_iff.mp h
    injection hr with hr
    rw [← hr] at h
    split at h
    · exact lays_base l _ _ h (b.laid (cleanL_InN h1)) (fun d hd => by rw [(E.laid_same _).2.2.2.2.1]; exact hc d (List.mem_cons_of_mem _ hd))
    · cases h
theorem well_new {k : Nat} {n : Int} {l : List (List Int)} {E : Eng} (hs : setErr n l = 0) (hcr : ∀ r, cnf_Right.f k n l = some r → r.2 = 0) (h : Eng.new k n l = some (E, 0)) : Well E := by
  obtain ⟨s1, s2, s3⟩ := setErr_InN hs
  unfold Eng.new at h
  obtain ⟨r, hr, h⟩ := Option.bind_eq_some_iff.mp h
  rw [if_neg (by rw [hcr r hr]; decide)] at h
  obtain ⟨E0, h0, h⟩ := Option.bind_eq_some_iff.mp h
  obtain ⟨E1, h1, h⟩ := Option.bind_eq_some_iff.mp h
  injection h with h
  injection h with h _
  subst h
  have b0 := lays_base l _ _ h0 (base_fresh s1) s3
  exact ⟨settle_keeps base_looks h1 b0, fun hb => settle_still h1 b0.fine b0.wts hb⟩
theorem pend_pushed {E : Eng} (h : Well E) (hb : E.br < 0) {l : Int} (hl : InN E.n l) (hv : E.val l = 0) : Pend (pushed0 E l) E.tr.length (fun _ => False) := fun j c hj hq => by
  have hj : E.cls[j]? = some c := hj
  have hc : ∀ x ∈ c, InN E.n x := fun x hx => h.fine.cls _ (List.mem_of_getElem? hj) x hx
  have hf0 : Fine ({ E with st := E.st ++ [(E.tr.length : Int)] } : Eng) := ⟨h.fine.n0, h.fine.cls, h.fine.tr, h.fine.mks, h.fine.nd, h.fine.con, h.fine.wt⟩
  have hq0 : Quiet ({ E with st := E.st ++ [(E.tr.length : Int)] } : Eng) c := by
    have h1 := h.still hb c (List.mem_of_getElem? hj)
    unfold Quiet at h1 ⊢
    exact (quiet_congr (E := E) (E' := ({ E with st := E.st ++ [(E.tr.length : Int)] } : Eng)) (fun _ _ => rfl) 0).trans h1
  refine .inl ⟨-l, Classical.byContradiction fun hno => hq (hf0.quiet_put (l := l) hl hv (-1) hc hq0 hno), ?_⟩
  show -(-l) ∈ (E.tr ++ [l]).drop E.tr.length
  rw [Int.neg_neg]
  simp
theorem well_push {k : Nat} {E E' : Eng} {l : Int} (h : Well E) (hl : InN E.n l) (hp : Eng.push k E l = some (E', true)) : Well E' := by
  obtain ⟨p1, p2, p3⟩ := push_inv hp
  have b := h.toBase.pushed hl p2
  exact ⟨follow_keeps base_looks _ _ _ _ p3 b, fun hb => follow_still _ _ _ _ p3 b.fine b.wts (fun _ => pend_pushed h p1 hl p2) hb⟩
theorem well_pop {k : Nat} {E E' : Eng} (h : Well E) (hp : Eng.pop k E = some (E', true)) : Well E' := by
  obtain ⟨ss, a, p1, p2⟩ := pop_inv hp
  have b := h.toBase.popped p1
  exact ⟨settle_keeps base_looks p2 b, fun hb => settle_still p2 b.fine b.wts hb⟩
theorem Index_loop (c : List Int) (x : Int) (hs : c.length < 4611686018427387904) : ∀ (m i : Nat), m + i = c.length →
    ∃ r, Tells (fun k => slices_Index_int_int.l0 k c x (c.length : Int) (i : Int)) r ∧ decide (r ≥ 0) = (c.drop i).any fun y => y == x
  | 0, i, h => by
    refine ⟨-1, Tells.succ (fun k => by rw [slices_Index_int_int.l0]) (Tells.neg (by omega) (Tells.const _)), ?_⟩
    rw [List.drop_of_length_le (by omega)]; rfl
  | m + 1, i, h => by
    have hi : i < c.length := by omega
    rw [List.drop_eq_getElem_cons hi, List.any_cons]
    by_cases he : x = c[i]
    · refine ⟨(i : Int), Tells.succ (fun k => by rw [slices_Index_int_int.l0]) (Tells.pos (by omega) (Tells.pos (by omega) (Tells.pos (by omega) ?_))), ?_⟩
      · rw [rd_at _ _ hi]; exact Tells.pos he (Tells.const _)
      · rw [← he]; simp
    · obtain ⟨r, hr, hd⟩ := Index_loop c x hs m (i + 1) (by omega)
      refine ⟨r, Tells.succ (fun k => by rw [slices_Index_int_int.l0]) (Tells.pos (by omega) (Tells.pos (by omega) (Tells.pos (by omega) ?_))), ?_⟩
      · rw [rd_at _ _ hi, w64s hi hs]; exact Tells.neg he hr
      · rw [hd, show (c[i] == x) = false from beq_eq_false_iff_ne.2 (fun e => he e.symm), Bool.false_or]
theorem lit_Has_tells (c : List Int) (x : Int) (hs : c.length < 4611686018427387904) : Tells (fun k => lit_Has.f k c x) (hasL c x) := by
  unfold lit_Has.f hasL
  rw [lit_is_isL]
  refine Tells.bind (Tells.const _) ?_
  by_cases hx : isL x = true
  · obtain ⟨r, hr, hd⟩ := Index_loop c x hs c.length 0 rfl
    rw [hx, Bool.true_and]
    refine Tells.pos rfl (Tells.bind (v := c.any fun y => y == x) ?_ (Tells.const _))
    unfold slices_Contains_int_int.f
    refine Tells.bind (v := r) hr ?_
    rw [hd]; exact Tells.const _
  · rw [Bool.eq_false_iff.2 hx]
    exact Tells.neg (by decide) (Tells.const _)
def parents (a b : List Int) (v : Int) : List Int := a.filter (· != v) ++ b.filter (· != wrap64 (-v))
def finR (c : List Int) : List Int × Int := if oppL (cleanL c) = true then ([], 4) else (cleanL c, 0)
def resolveL (a b : List Int) (v : Int) : List Int × Int := if (hasL a v && hasL b (wrap64 (-v))) = true then finR (parents a b v) else ([], 1)
theorem wneg {l : Int} (h : I64 l) (hl : isL l = true) : wrap64 (-l) = -l := by
  have := h.lo; have := h.hi; have := (of_decide_eq_true hl).2
  exact w64 (by omega) (by omega)
theorem isL_neg {l : Int} (h : I64 l) (hl : isL l = true) : isL (-l) = true ∧ I64 (-l) := by
  have := h.lo; have := h.hi; have h1 := of_decide_eq_true hl
  refine ⟨decide_eq_true (by omega), ?_⟩
  have a : IntKind.i64.min = -9223372036854775808 := by decide
  have b : IntKind.i64.max = 9223372036854775807 := by decide
  unfold I64 Lit.wf
  rw [Bool.and_eq_true, decide_eq_true_eq, decide_eq_true_eq]
  omega
theorem parents_good {a b : List Int} {v : Int} (ha : ∀ x ∈ a, I64 x) (hb : ∀ x ∈ b, I64 x) : ∀ x ∈ parents a b v, I64 x := fun x hx => by
  unfold parents at hx
  rcases List.mem_append.1 hx with h | h
  · exact ha x ((List.mem_filter.1 h).1)
  · exact hb x ((List.mem_filter.1 h).1)
theorem litT_isL {l : Int} {v : List Bool} (hv : v.length < 4611686018427387904) (h : litT l v = true) : isL l = true := by
  unfold litT at h
  simp only [Bool.and_eq_true, decide_eq_true_eq] at h
  exact decide_eq_true (by omega)
theorem litT_both {l : Int} {v : List Bool} (h : litT l v = true) (h' : litT (-l) v = true) : False := by
  unfold litT at h h'
  simp only [Bool.and_eq_true, decide_eq_true_eq, beq_iff_eq, Int.natAbs_neg] at h h'
  rw [h.2, decide_eq_decide] at h'
  omega
theorem holds_iff {c : List Int} {v : List Bool} : holds c v = true ↔ ∃ l ∈ c, litT l v = true := by
  unfold holds; rw [List.any_eq_true]
theorem holds_ext {c d : List Int} {v : List Bool} (hv : v.length < 4611686018427387904) (h : ∀ x, isL x = true → (x ∈ c ↔ x ∈ d)) : holds c v = holds d v := by
  rw [Bool.eq_iff_iff, holds_iff, holds_iff]
  constructor
  · rintro ⟨l, h1, h2⟩; exact ⟨l, (h l (litT_isL hv h2)).1 h1, h2⟩
  · rintro ⟨l, h1, h2⟩; exact ⟨l, (h l (litT_isL hv h2)).2 h1, h2⟩
theorem holds_clean {c : List Int} {v : List Bool} (hv : v.length < 4611686018427387904) : holds (cleanL c) v = holds c v :=
  holds_ext hv fun x hx => by rw [cleanL_mem]; exact ⟨fun h => h.1, fun h => ⟨h, hx⟩⟩
theorem resolve_holds {a b : List Int} {v : Int} {vs : List Bool} (hv : vs.length < 4611686018427387904) (ha : ∀ x ∈ a, I64 x) (hr : (resolveL a b v).2 = 0) (h1 : holds a vs = true) (h2 : holds b vs = true) : holds (resolveL a b v).1 vs = true := by
  unfold resolveL finR at hr ⊢
  by_cases hc : (hasL a v && hasL b (wrap64 (-v))) = true
  · rw [if_pos hc] at hr ⊢
    by_cases ho : oppL (cleanL (parents a b v)) = true
    · rw [if_pos ho] at hr; cases hr
    · rw [if_neg ho, holds_clean hv]
      rw [Bool.and_eq_true] at hc
      obtain ⟨hl, hm⟩ := hasL_iff.1 hc.1
      have hw := wneg (ha _ hm) hl
      rw [holds_iff] at h1 h2 ⊢
      obtain ⟨x, hx, tx⟩ := h1
      obtain ⟨y, hy, ty⟩ := h2
      by_cases ex : x = v
      · by_cases ey : y = wrap64 (-v)
        · subst ex
          rw [ey, hw] at ty
          exact (litT_both tx ty).elim
        · exact ⟨y, by unfold parents; rw [List.mem_append]; exact .inr (List.mem_filter.2 ⟨hy, by simpa using ey⟩), ty⟩
      · exact ⟨x, by unfold parents; rw [List.mem_append]; exact .inl (List.mem_filter.2 ⟨hx, by simpa using ex⟩), tx⟩
  · rw [if_neg hc] at hr; cases hr
theorem Ints_loop (a b : List Int) (hl : a.length = b.length) (hs : a.length < 4611686018427387904) : ∀ (n i : Nat), n + i = a.length → Tells (fun k => sequiturbase_Ints.l0 k a b (i : Int)) (a.drop i == b.drop i)
  | 0, i, h => by
    refine Tells.succ (fun k => by rw [sequiturbase_Ints.l0]) (Tells.neg (by omega) ?_)
    rw [List.drop_of_length_le (by omega), List.drop_of_length_le (by omega)]; exact Tells.const _
  | n + 1, i, h => by
    refine Tells.succ (fun k => by rw [sequiturbase_Ints.l0]) (Tells.pos (by omega) (Tells.pos (by omega) (Tells.pos (by omega) ?_)))
    rw [rd_at _ _ (by omega : i < a.length), rd_at _ _ (by omega : i < b.length), w64s (by omega : i < a.length) hs,
      List.drop_eq_getElem_cons (by omega : i < a.length), List.drop_eq_getElem_cons (by omega : i < b.length), List.cons_beq_cons]
    by_cases e : a[i] = b[i]
    · refine Tells.pos e ?_
      rw [beq_iff_eq.2 e, Bool.true_and]
      exact Ints_loop a b hl hs n (i + 1) (by omega)
    · refine Tells.neg e ?_
      rw [beq_eq_false_iff_ne.mpr e, Bool.false_and]; exact Tells.const _
theorem Ints_tells (a b : List Int) (hs : a.length < 4611686018427387904) : Tells (fun k => sequiturbase_Ints.f k a b) (a == b) := by
  unfold sequiturbase_Ints.f
  by_cases h : a.length = b.length
  · exact Tells.pos (by omega) (Ints_loop a b h hs a.length 0 rfl)
  · refine Tells.neg (by omega) ?_
    rw [show (a == b) = false from beq_eq_false_iff_ne.mpr fun e => h (by rw [e])]
    exact Tells.const _
theorem lit_Resolve_l1 (b : List Int) (v : Int) (hb : ∀ x ∈ b, I64 x) (N : Nat) (hN : N + b.length < 17592186044000) : ∀ (m i : Nat) (acc : List Int), m + i = b.length → acc.length ≤ N + i → (∀ x ∈ acc, I64 x) →
    Tells (fun k => lit_Resolve.l1 k v acc b (b.length : Int) (i : Int)) (finR (acc ++ (b.drop i).filter (· != wrap64 (-v))))
  | 0, i, acc, h, hl, hg => by
    refine Tells.succ (fun k => by rw [lit_Resolve.l1]) (Tells.neg (by omega) ?_)
    rw [List.drop_of_length_le (by omega), List.filter_nil, List.append_nil, lit_Clean_eq acc hg (by omega)]
    refine Tells.bind (Tells.const _) ?_
    unfold finR
    by_cases ho : oppL (cleanL acc) = true
    · rw [if_pos ho]; exact Tells.neg (by show ¬ (!oppL (cleanL acc)) = true; rw [ho]; decide) (Tells.const _)
    · rw [if_neg ho]; exact Tells.pos (by show (!oppL (cleanL acc)) = true; rw [Bool.eq_false_iff.2 ho]; rfl) (Tells.const _)
  | m + 1, i, acc, h, hl, hg => by
    have hi : i < b.length := by omega
    refine Tells.succ (fun k => by rw [lit_Resolve.l1]) (Tells.pos (by omega) (Tells.pos (by omega) (Tells.pos (by omega) ?_)))
    rw [rd_at _ _ hi, w64s hi (by omega), List.drop_eq_getElem_cons hi]
    by_cases e : b[i] = wrap64 (-v)
    · refine Tells.pos e ?_
      rw [List.filter_cons_of_neg (by simp [e])]
      exact lit_Resolve_l1 b v hb N hN m (i + 1) acc (by omega) (by omega) hg
    · refine Tells.neg e (Tells.pos (by omega) ?_)
      rw [List.filter_cons_of_pos (by simpa using e), List.append_cons acc b[i] (List.filter (· != wrap64 (-v)) (b.drop (i + 1)))]
      exact lit_Resolve_l1 b v hb N hN m (i + 1) (acc ++ [b[i]]) (by omega) (by simp; omega) (fun x hx => by
        rcases List.mem_append.1 hx with hx | hx
        · exact hg x hx
        · rw [List.mem_singleton.1 hx]; exact hb _ (List.getElem_mem hi))
theorem lit_Resolve_l0 (a b : List Int) (v : Int) (ha : ∀ x ∈ a, I64 x) (hb : ∀ x ∈ b, I64 x) (hN : a.length + b.length < 17592186044000) : ∀ (m i : Nat) (acc : List Int), m + i = a.length → acc.length ≤ i → (∀ x ∈ acc, I64 x) →
    Tells (fun k => lit_Resolve.l0 k b v acc a (a.length : Int) (i : Int)) (finR (acc ++ (a.drop i).filter (· != v) ++ b.filter (· != wrap64 (-v))))
  | 0, i, acc, h, hl, hg => by
    refine Tells.succ (fun k => by rw [lit_Resolve.l0]) (Tells.neg (by omega) ?_)
    rw [List.drop_of_length_le (by omega), List.filter_nil, List.append_nil]
    exact lit_Resolve_l1 b v hb a.length hN b.length 0 acc rfl (by omega) hg
  | m + 1, i, acc, h, hl, hg => by
    have hi : i < a.length := by omega
    refine Tells.succ (fun k => by rw [lit_Resolve.l0]) (Tells.pos (by omega) (Tells.pos (by omega) (Tells.pos (by omega) ?_)))
    rw [rd_at _ _ hi, w64s hi (by omega), List.drop_eq_getElem_cons hi]
    by_cases e : a[i] = v
    · refine Tells.pos e ?_
      rw [List.filter_cons_of_neg (by simp [e])]
      exact lit_Resolve_l0 a b v ha hb hN m (i + 1) acc (by omega) (by omega) hg
    · refine Tells.neg e (Tells.pos (by omega) ?_)
      rw [List.filter_cons_of_pos (by simpa using e), List.append_cons acc a[i] (List.filter (· != v) (a.drop (i + 1)))]
      exact lit_Resolve_l0 a b v ha hb hN m (i + 1) (acc ++ [a[i]]) (by omega) (by simp; omega) (fun x hx => by
        rcases List.mem_append.1 hx with hx | hx
        · exact hg x hx
        · rw [List.mem_singleton.1 hx]; exact ha _ (List.getElem_mem hi))
theorem lit_Resolve_tells (a b : List Int) (v : Int) (ha : ∀ x ∈ a, I64 x) (hb : ∀ x ∈ b, I64 x) (hN : a.length + b.length < 17592186044000) : Tells (fun k => lit_Resolve.f k a b v) (resolveL a b v) := by
  unfold lit_Resolve.f resolveL
  refine Tells.bind (lit_Has_tells a v (by omega)) ?_
  by_cases h1 : hasL a v = true
  · refine Tells.pos h1 (Tells.bind (lit_Has_tells b _ (by omega)) ?_)
    by_cases h2 : hasL b (wrap64 (-v)) = true
    · rw [h1, h2, if_pos (by rfl)]
      refine Tells.succ (fun k => by rw [lit_Resolve.j0]) (Tells.neg (by decide) ?_)
      exact lit_Resolve_l0 a b v ha hb hN a.length 0 [] rfl (by simp) (by simp)
    · rw [Bool.eq_false_iff.2 h2, Bool.and_false, if_neg (by decide)]
      exact Tells.succ (fun k => by rw [lit_Resolve.j0]) (Tells.pos (by rfl) (Tells.const _))
  · rw [Bool.eq_false_iff.2 h1, Bool.false_and, if_neg (by decide)]
    exact Tells.neg (by decide) (Tells.succ (fun k => by rw [lit_Resolve.j0]) (Tells.pos (by rfl) (Tells.const _)))
theorem r17_is_eq (a : Int) : sequiturref17_is.f a = some (isL a) := by
  unfold sequiturref17_is.f isL
  by_cases h : a = 0
  · rw [if_pos h, decide_eq_false (by simp [h])]
  · rw [if_neg h]
    by_cases h2 : a = -9223372036854775808
    · rw [h2]; rfl
    · rw [decide_eq_true ⟨h, h2⟩]
      simpa using h2
theorem r17_Of_eq {a : Int} (h : I64 a) (hm : isL a = true) : sequiturref17_Of.f a = some ((a.natAbs : Nat) : Int) := by
  have := h.lo; have := h.hi
  have hm := (of_decide_eq_true hm).2
  unfold sequiturref17_Of.f wrap64
  split <;> (congr 1; omega)
theorem r17_Has_loop (c : List Int) (x : Int) (hs : c.length < 4611686018427387904) : ∀ (m i : Nat), m + i = c.length →
    Tells (fun k => sequiturref17_Has.l0 k c x (i : Int)) (hasL (c.drop i) x)
  | 0, i, h => by
    refine Tells.succ (fun k => by rw [sequiturref17_Has.l0]) (Tells.neg (by omega) ?_)
    rw [List.drop_of_length_le (by omega), show hasL [] x = false by unfold hasL; simp]; exact Tells.const _
  | m + 1, i, h => by
    have hi : i < c.length := by omega
    have ih := r17_Has_loop c x hs m (i + 1) (by omega)
    refine Tells.succ (fun k => by rw [sequiturref17_Has.l0]) (Tells.pos (by omega) ?_)
    rw [rd_at _ _ hi, w64s hi hs, List.drop_eq_getElem_cons hi, r17_is_eq]
    refine Tells.bind (Tells.const _) ?_
    by_cases hx : isL x = true
    · refine Tells.pos hx (Tells.pos (by omega) ?_)
      by_cases he : c[i] = x
      · refine Tells.pos he ?_
        rw [show hasL (c[i] :: c.drop (i + 1)) x = true from hasL_iff.2 ⟨hx, by simp [he]⟩]
        exact Tells.const _
      · refine Tells.neg he ?_
        rw [show hasL (c[i] :: c.drop (i + 1)) x = hasL (c.drop (i + 1)) x by unfold hasL; rw [List.any_cons, beq_eq_false_iff_ne.2 he, Bool.false_or]]
        exact ih
    · refine Tells.neg hx ?_
      rw [show hasL (c[i] :: c.drop (i + 1)) x = hasL (c.drop (i + 1)) x by unfold hasL; rw [Bool.eq_false_iff.2 hx]; rfl]
      exact ih
theorem r17_Has_tells (c : List Int) (x : Int) (hs : c.length < 4611686018427387904) : Tells (fun k => sequiturref17_Has.f k c x) (hasL c x) := r17_Has_loop c x hs c.length 0 rfl
theorem r17_ahead_eq {a b : Int} (ha : I64 a) (hb : I64 b) (la : isL a = true) (lb : isL b = true) : sequiturref17_ahead.f a b = some (aheadL a b) := by
  unfold sequiturref17_ahead.f aheadL
  rw [r17_Of_eq ha la, r17_Of_eq hb lb]
  show (if ((a.natAbs : Nat) : Int) < ((b.natAbs : Nat) : Int) then some true else if ((a.natAbs : Nat) : Int) = ((b.natAbs : Nat) : Int) then some (decide (a < b)) else some false) = _
  by_cases h : a.natAbs < b.natAbs
  · rw [if_pos (by omega), decide_eq_true h, Bool.true_or]
  · rw [if_neg (by omega), decide_eq_false h, Bool.false_or]
    by_cases h2 : a.natAbs = b.natAbs
    · rw [if_pos (by omega), decide_eq_true h2, Bool.true_and]
    · rw [if_neg (by omega), decide_eq_false h2, Bool.false_and]
theorem r17_opp_loop (out : List Int) (ho : ∀ x ∈ out, I64 x ∧ isL x = true) (hs : out.length < 4611686018427387904) : ∀ (m i : Nat), m + i = out.length →
    Tells (fun k => sequiturref17_Clean.l2 k out (i : Int)) (out, !((out.drop i).any fun x => hasL out (-x)))
  | 0, i, h => by
    refine Tells.succ (fun k => by rw [sequiturref17_Clean.l2]) (Tells.neg (by omega) ?_)
    rw [List.drop_of_length_le (by omega)]; exact Tells.const _
  | m + 1, i, h => by
    have hi : i < out.length := by omega
    obtain ⟨h1, h2⟩ := ho _ (List.getElem_mem hi)
    have h3 := of_decide_eq_true h2
    have := h1.lo; have := h1.hi
    have hw : wrap64 (-out[i]) = -out[i] := w64 (by omega) (by omega)
    refine Tells.succ (fun k => by rw [sequiturref17_Clean.l2]) (Tells.pos (by omega) (Tells.pos (by omega) ?_))
    rw [rd_at _ _ hi, hw, w64s hi hs, List.drop_eq_getElem_cons hi, List.any_cons]
    refine Tells.bind (r17_Has_tells out (-out[i]) hs) ?_
    by_cases hh : hasL out (-out[i]) = true
    · rw [hh]; exact Tells.pos rfl (Tells.const _)
    · rw [Bool.eq_false_iff.2 hh, Bool.false_or]
      exact Tells.neg (by decide) (r17_opp_loop out ho hs m (i + 1) (by omega))
theorem r17_at (c out : List Int) (i : Nat) (hi : i < c.length) (hc : ∀ x ∈ c, I64 x) (ho : ∀ x ∈ out, I64 x ∧ isL x = true) (hl : isL c[i] = true) (hs : c.length < 17592186044000) (hos : out.length ≤ i) {v : List Int × Bool}
    (K : Tells (fun k => sequiturref17_Clean.l0 k c (insL c[i] out) ((i + 1 : Nat) : Int)) v) : ∀ (suf pre : List Int), out = pre ++ suf → (∀ y ∈ pre, aheadL y c[i] = true) →
      Tells (fun k => sequiturref17_Clean.l1 k c out (i : Int) ((pre.length : Nat) : Int)) v
  | [], pre, e, ha => by
    have e1 : out = pre := by rw [e, List.append_nil]
    have hins : insL c[i] out = (([] ++ pre) ++ [c[i]]) ++ [] := by
      unfold insL
      rw [e, List.takeWhile_append_of_pos ha, List.dropWhile_append_of_pos ha]
      simp
    refine Tells.succ (fun k => by rw [sequiturref17_Clean.l1]) (Tells.neg (by rw [e1]; omega) (Tells.pos (by omega) (Tells.pos (by rw [e1]; omega) ?_)))
    rw [Int.toNat_natCast, e1, List.take_length, List.drop_length, rd_at _ _ hi, w64s hi (by omega)]
    have hl1 : pre.length ≤ i := by rw [← e1]; exact hos
    refine Tells.bind (Tells.const _) (Tells.pos (by simp; omega) (Tells.bind (Tells.const _) (Tells.pos (by omega) (Tells.pos (by omega) (Tells.pos (by simp; omega) (Tells.bind (Tells.const _) (Tells.bind (Tells.const _) (Tells.pos (by simp; omega) ?_))))))))
    rw [hins] at K
    exact K
  | s :: suf, pre, e, ha => by
    have hlen : pre.length < out.length := by rw [e]; simp
    have hmem : s ∈ out := by rw [e]; simp
    have hget : rd out ((pre.length : Nat) : Int) = s := by rw [rd_at _ _ hlen]; simp [e]
    refine Tells.succ (fun k => by rw [sequiturref17_Clean.l1]) (Tells.pos (by omega) (Tells.pos (by omega) (Tells.pos (by omega) (Tells.pos (by omega) ?_))))
    rw [hget, rd_at _ _ hi, r17_ahead_eq (ho s hmem).1 (hc _ (List.getElem_mem hi)) (ho s hmem).2 hl]
    refine Tells.bind (Tells.const _) ?_
    by_cases h : aheadL s c[i] = true
    · refine Tells.pos h ?_
      have ih := r17_at c out i hi hc ho hl hs hos K suf (pre ++ [s]) (by rw [e]; simp) (fun y hy => by
        rcases List.mem_append.1 hy with hy | hy
        · exact ha y hy
        · rw [List.mem_singleton.1 hy]; exact h)
      rw [w64s (by omega : pre.length < c.length) (by omega)]
      rw [List.length_append, List.length_singleton] at ih
      exact ih
    · refine Tells.neg h (Tells.pos (by omega) ?_)
      have hins : insL c[i] out = (([] ++ pre) ++ [c[i]]) ++ (s :: suf) := by
        unfold insL
        rw [e, List.takeWhile_append_of_pos ha, List.dropWhile_append_of_pos ha, List.takeWhile_cons_of_neg (p := fun y => aheadL y c[i]) h, List.dropWhile_cons_of_neg (p := fun y => aheadL y c[i]) h]
        simp
      have hl2 : pre.length + (s :: suf).length ≤ i := by rw [← List.length_append, ← e]; exact hos
      rw [Int.toNat_natCast, show out.take pre.length = pre by rw [e]; exact List.take_left' rfl, show out.drop pre.length = s :: suf by rw [e]; exact List.drop_left' rfl, w64s hi (by omega)]
      refine Tells.bind (Tells.const _) (Tells.pos (by simp; omega) (Tells.bind (Tells.const _) (Tells.pos (by simp; omega) (Tells.bind (Tells.const _) (Tells.bind (Tells.const _) (Tells.pos (by simp at hl2 ⊢; omega) ?_))))))
      rw [hins] at K
      exact K
theorem r17_Clean_loop (c : List Int) (hc : ∀ x ∈ c, I64 x) (hs : c.length < 17592186044000) : ∀ (m i : Nat) (out : List Int), m + i = c.length → out.length ≤ i → (∀ x ∈ out, I64 x ∧ isL x = true) →
    Tells (fun k => sequiturref17_Clean.l0 k c out (i : Int)) ((c.drop i).foldl cleanStep out, !oppL ((c.drop i).foldl cleanStep out))
  | 0, i, out, h, hos, ho => by
    refine Tells.succ (fun k => by rw [sequiturref17_Clean.l0]) (Tells.neg (by omega) ?_)
    rw [List.drop_of_length_le (by omega)]
    exact r17_opp_loop out ho (by omega) out.length 0 rfl
  | m + 1, i, out, h, hos, ho => by
    have hi : i < c.length := by omega
    have hx := hc _ (List.getElem_mem hi)
    have hstep : ∀ x ∈ cleanStep out c[i], I64 x ∧ isL x = true := fun x hm => by
      rcases cleanStep_mem.1 hm with hm | ⟨rfl, hl⟩
      · exact ho x hm
      · exact ⟨hx, hl⟩
    have ih := r17_Clean_loop c hc hs m (i + 1) (cleanStep out c[i]) (by omega) (by have := cleanStep_length out c[i]; omega) hstep
    rw [List.drop_eq_getElem_cons hi, List.foldl_cons]
    refine Tells.succ (fun k => by rw [sequiturref17_Clean.l0]) (Tells.pos (by omega) (Tells.pos (by omega) ?_))
    rw [rd_at _ _ hi, r17_is_eq]
    refine Tells.bind (Tells.const _) ?_
    have hskip : cleanStep out c[i] = out → Tells (fun k => sequiturref17_Clean.j1 k c out (i : Int) true) ((c.drop (i + 1)).foldl cleanStep (cleanStep out c[i]), !oppL ((c.drop (i + 1)).foldl cleanStep (cleanStep out c[i]))) := fun e => by
      refine Tells.succ (fun k => by rw [sequiturref17_Clean.j1]) (Tells.pos rfl ?_)
      rw [w64s hi (by omega)]
      rw [e] at ih ⊢
      exact ih
    by_cases hl : isL c[i] = true
    · refine Tells.pos hl (Tells.bind (r17_Has_tells out c[i] (by omega)) ?_)
      by_cases hh : hasL out c[i] = true
      · rw [hh]
        exact hskip (by unfold cleanStep; rw [hh]; simp)
      · rw [Bool.eq_false_iff.2 hh]
        refine Tells.succ (fun k => by rw [sequiturref17_Clean.j1]) (Tells.neg (by decide) ?_)
        have e : cleanStep out c[i] = insL c[i] out := by unfold cleanStep; rw [hl, Bool.eq_false_iff.2 hh]; rfl
        rw [e] at ih ⊢
        exact r17_at c out i hi hc ho hl hs hos ih out [] rfl (fun y hy => by cases hy)
    · refine Tells.neg hl (hskip ?_)
      unfold cleanStep
      rw [Bool.eq_false_iff.2 hl]; rfl
theorem r17_Clean_tells (c : List Int) (hc : ∀ x ∈ c, I64 x) (hs : c.length < 17592186044000) : Tells (fun k => sequiturref17_Clean.f k c) (cleanL c, !oppL (cleanL c)) :=
  r17_Clean_loop c hc hs c.length 0 [] rfl (Nat.le_refl _) (fun x hx => by cases hx)
theorem r17_Resolve_l1 (b : List Int) (v : Int) (hb : ∀ x ∈ b, I64 x) (N : Nat) (hN : N + b.length < 17592186044000) : ∀ (m i : Nat) (acc : List Int), m + i = b.length → acc.length ≤ N + i → (∀ x ∈ acc, I64 x) →
    Tells (fun k => sequiturref17_Resolve.l1 k b v acc (i : Int)) (finR (acc ++ (b.drop i).filter (· != wrap64 (-v))))
  | 0, i, acc, h, hl, hg => by
    refine Tells.succ (fun k => by rw [sequiturref17_Resolve.l1]) (Tells.neg (by omega) ?_)
    rw [List.drop_of_length_le (by omega), List.filter_nil, List.append_nil]
    refine Tells.bind (r17_Clean_tells acc hg (by omega)) ?_
    unfold finR
    by_cases ho : oppL (cleanL acc) = true
    · rw [if_pos ho]; exact Tells.neg (by show ¬ (!oppL (cleanL acc)) = true; rw [ho]; decide) (Tells.const _)
    · rw [if_neg ho]; exact Tells.pos (by show (!oppL (cleanL acc)) = true; rw [Bool.eq_false_iff.2 ho]; rfl) (Tells.const _)
  | m + 1, i, acc, h, hl, hg => by
    have hi : i < b.length := by omega
    refine Tells.succ (fun k => by rw [sequiturref17_Resolve.l1]) (Tells.pos (by omega) (Tells.pos (by omega) ?_))
    rw [rd_at _ _ hi, w64s hi (by omega), List.drop_eq_getElem_cons hi]
    by_cases e : b[i] = wrap64 (-v)
    · refine Tells.pos e ?_
      rw [List.filter_cons_of_neg (by simp [e])]
      exact r17_Resolve_l1 b v hb N hN m (i + 1) acc (by omega) (by omega) hg
    · refine Tells.neg e (Tells.pos (by omega) ?_)
      rw [List.filter_cons_of_pos (by simpa using e), List.append_cons acc b[i] (List.filter (· != wrap64 (-v)) (b.drop (i + 1)))]
      exact r17_Resolve_l1 b v hb N hN m (i + 1) (acc ++ [b[i]]) (by omega) (by simp; omega) (fun x hx => by
        rcases List.mem_append.1 hx with hx | hx
        · exact hg x hx
        · rw [List.mem_singleton.1 hx]; exact hb _ (List.getElem_mem hi))
theorem r17_Resolve_l0 (a b : List Int) (v : Int) (ha : ∀ x ∈ a, I64 x) (hb : ∀ x ∈ b, I64 x) (hN : a.length + b.length < 17592186044000) : ∀ (m i : Nat) (acc : List Int), m + i = a.length → acc.length ≤ i → (∀ x ∈ acc, I64 x) →
    Tells (fun k => sequiturref17_Resolve.l0 k a b v acc (i : Int)) (finR (acc ++ (a.drop i).filter (· != v) ++ b.filter (· != wrap64 (-v))))
  | 0, i, acc, h, hl, hg => by
    refine Tells.succ (fun k => by rw [sequiturref17_Resolve.l0]) (Tells.neg (by omega) ?_)
    rw [List.drop_of_length_le (by omega), List.filter_nil, List.append_nil]
    exact r17_Resolve_l1 b v hb a.length hN b.length 0 acc rfl (by omega) hg
  | m + 1, i, acc, h, hl, hg => by
    have hi : i < a.length := by omega
    refine Tells.succ (fun k => by rw [sequiturref17_Resolve.l0]) (Tells.pos (by omega) (Tells.pos (by omega) ?_))
    rw [rd_at _ _ hi, w64s hi (by omega), List.drop_eq_getElem_cons hi]
    by_cases e : a[i] = v
    · refine Tells.pos e ?_
      rw [List.filter_cons_of_neg (by simp [e])]
      exact r17_Resolve_l0 a b v ha hb hN m (i + 1) acc (by omega) (by omega) hg
    · refine Tells.neg e (Tells.pos (by omega) ?_)
      rw [List.filter_cons_of_pos (by simpa using e), List.append_cons acc a[i] (List.filter (· != v) (a.drop (i + 1)))]
      exact r17_Resolve_l0 a b v ha hb hN m (i + 1) (acc ++ [a[i]]) (by omega) (by simp; omega) (fun x hx => by
        rcases List.mem_append.1 hx with hx | hx
        · exact hg x hx
        · rw [List.mem_singleton.1 hx]; exact ha _ (List.getElem_mem hi))
theorem r17_Resolve_tells (a b : List Int) (v : Int) (ha : ∀ x ∈ a, I64 x) (hb : ∀ x ∈ b, I64 x) (hN : a.length + b.length < 17592186044000) : Tells (fun k => sequiturref17_Resolve.f k a b v) (resolveL a b v) := by
  unfold sequiturref17_Resolve.f resolveL
  rw [r17_is_eq]
  refine Tells.bind (Tells.const _) ?_
  have no : (hasL a v && hasL b (wrap64 (-v))) = false → Tells (fun k => sequiturref17_Resolve.j0 k a b v true) (if (hasL a v && hasL b (wrap64 (-v))) = true then finR (parents a b v) else ([], 1)) := fun e => by
    rw [e, if_neg (by decide)]
    exact Tells.succ (fun k => by rw [sequiturref17_Resolve.j0]) (Tells.pos (by rfl) (Tells.const _))
  by_cases hl : isL v = true
  · refine Tells.pos hl (Tells.bind (r17_Has_tells a v (by omega)) ?_)
    by_cases h1 : hasL a v = true
    · refine Tells.pos h1 (Tells.bind (r17_Has_tells b _ (by omega)) ?_)
      by_cases h2 : hasL b (wrap64 (-v)) = true
      · rw [h1, h2, if_pos (by rfl)]
        refine Tells.succ (fun k => by rw [sequiturref17_Resolve.j0]) (Tells.neg (by decide) ?_)
        exact r17_Resolve_l0 a b v ha hb hN a.length 0 [] rfl (by simp) (by simp)
      · have := no (by rw [Bool.eq_false_iff.2 h2, Bool.and_false])
        rw [Bool.eq_false_iff.2 h2] at this ⊢
        exact this
    · exact Tells.neg h1 (no (by rw [Bool.eq_false_iff.2 h1, Bool.false_and]))
  · refine Tells.neg hl (no ?_)
    have : hasL a v = false := by unfold hasL; rw [Bool.eq_false_iff.2 hl]; rfl
    rw [this, Bool.false_and]
def plA (tr : List Int) : Int → Option Int := plT tr tr.length
theorem plT_none {tr : List Int} : ∀ {j : Nat} {x : Int}, (∀ i, i < j → tr.getD i 0 ≠ x) → plT tr j x = none
  | 0, _, _ => rfl
  | j + 1, x, h => by rw [plT, if_neg (fun e => h j (by omega) e.symm)]; exact plT_none (fun i hi => h i (by omega))
theorem plT_inv {tr : List Int} : ∀ {j : Nat} {x a : Int}, plT tr j x = some a → ∃ n : Nat, a = (n : Int) ∧ n < j ∧ tr.getD n 0 = x
  | 0, _, _, h => by cases h
  | j + 1, x, a, h => by
    rw [plT] at h
    by_cases e : x = tr.getD j 0
    · rw [if_pos e] at h; injection h with h; exact ⟨j, h.symm, by omega, e.symm⟩
    · rw [if_neg e] at h
      obtain ⟨n, h1, h2, h3⟩ := plT_inv h
      exact ⟨n, h1, by omega, h3⟩
theorem plT_some {tr : List Int} (hnd : tr.Nodup) : ∀ {j : Nat}, j ≤ tr.length → ∀ {i : Nat}, i < j → plT tr j (tr.getD i 0) = some (i : Int)
  | 0, _, i, h => absurd h (by omega)
  | j + 1, hj, i, h => by
    rw [plT]
    by_cases e : i = j
    · subst e; rw [if_pos rfl]
    · refine (if_neg (fun e2 => e ?_)).trans (plT_some hnd (by omega) (by omega))
      have h1 : i < tr.length := by omega
      have h2 : j < tr.length := by omega
      rw [List.getD_eq_getElem?_getD, List.getD_eq_getElem?_getD, List.getElem?_eq_getElem h1, List.getElem?_eq_getElem h2] at e2
      have e3 : tr[i] = tr[j] := e2
      rcases Nat.lt_or_gt_of_ne e with hh | hh
      · exact absurd e3 (List.pairwise_iff_getElem.1 hnd i j h1 h2 hh)
      · exact absurd e3.symm (List.pairwise_iff_getElem.1 hnd j i h2 h1 hh)
theorem plA_iff {tr : List Int} (hnd : tr.Nodup) {x a : Int} : plA tr x = some a ↔ ∃ n : Nat, a = (n : Int) ∧ n < tr.length ∧ tr.getD n 0 = x := by
  refine ⟨plT_inv, fun ⟨n, h1, h2, h3⟩ => ?_⟩
  rw [h1, ← h3]; exact plT_some hnd (Nat.le_refl _) h2
theorem plA_mem {tr : List Int} {x : Int} : (plA tr x).isSome = true ↔ x ∈ tr := by
  constructor
  · intro h
    obtain ⟨a, ha⟩ := Option.isSome_iff_exists.1 h
    obtain ⟨n, _, h2, h3⟩ := plT_inv ha
    rw [← h3, List.getD_eq_getElem?_getD, List.getElem?_eq_getElem h2]; exact List.getElem_mem h2
  · intro h
    cases e : plA tr x with
    | some a => rfl
    | none =>
      obtain ⟨n, h2, h3⟩ := List.getElem_of_mem h
      exfalso
      have : ∀ j, n < j → (plT tr j x).isSome = true := by
        intro j
        induction j with
        | zero => intro h; omega
        | succ j ih =>
          intro h
          rw [plT]
          by_cases e2 : x = tr.getD j 0
          · rw [if_pos e2]; rfl
          · rw [if_neg e2]
            by_cases e3 : n = j
            · subst e3; rw [List.getD_eq_getElem?_getD, List.getElem?_eq_getElem h2, h3] at e2; exact absurd rfl e2
            · exact ih (by omega)
      have := this tr.length h2
      unfold plA at e
      rw [e] at this; cases this
section
variable (tr wy lv : List Int) (br top : Int)
def plD (tr : List Int) (x : Int) : Int := (plA tr x).getD (-1)
theorem plD_neg {tr : List Int} {x : Int} : plD tr x < 0 ↔ plA tr x = none := by
  unfold plD
  cases h : plA tr x with
  | none => simp
  | some a => obtain ⟨n, h1, _⟩ := plT_inv h; simp; omega
theorem plD_lt {tr : List Int} {x : Int} : plD tr x < tr.length := by
  unfold plD
  cases h : plA tr x with
  | none => simp; omega
  | some a => obtain ⟨n, h1, h2, _⟩ := plT_inv h; simp; omega
theorem place_loop (hnd : tr.Nodup) (hl : tr.length < 4611686018427387904) (x : Int) : ∀ (m i : Nat), m + i = tr.length → (∀ j, j < i → tr.getD j 0 ≠ x) →
    Tells (fun k => sequiturref21_place.l0 k x (i : Int) tr wy lv br top) (plD tr x)
  | 0, i, h, hi => by
    refine Tells.succ (fun k => by rw [sequiturref21_place.l0]) (Tells.neg (by omega) ?_)
    have : plD tr x = -1 := by unfold plD plA; rw [plT_none (fun j hj => hi j (by omega))]; rfl
    rw [this]; exact Tells.const _
  | m + 1, i, h, hi => by
    have hlt : i < tr.length := by omega
    refine Tells.succ (fun k => by rw [sequiturref21_place.l0]) (Tells.pos (by omega) (Tells.pos (by omega) ?_))
    have hg : tr.getD i 0 = tr[i] := by rw [List.getD_eq_getElem?_getD, List.getElem?_eq_getElem hlt]; rfl
    rw [rd_at _ _ hlt, w64s hlt hl]
    by_cases e : tr[i] = x
    · refine Tells.pos e ?_
      have : plD tr x = (i : Int) := by unfold plD; rw [(plA_iff hnd).2 ⟨i, rfl, hlt, hg.trans e⟩]; rfl
      rw [this]; exact Tells.const _
    · refine Tells.neg e (place_loop hnd hl x m (i + 1) (by omega) (fun j hj => ?_))
      by_cases e2 : j = i
      · rw [e2, hg]; exact e
      · exact hi j (by omega)
theorem place_tells (hnd : tr.Nodup) (hl : tr.length < 4611686018427387904) (x : Int) : Tells (fun k => sequiturref21_place.f k tr wy lv br top x) (plD tr x) :=
  place_loop tr wy lv br top hnd hl x tr.length 0 rfl (fun j hj => absurd hj (by omega))
def numL (L : List (List Int)) (n : Int) : List Int × Bool := if n < 0 ∨ (L.length : Int) ≤ n then ([], false) else (cleanL (L.getD n.toNat []), true)
def ClsOk (L : List (List Int)) : Prop := ∀ c ∈ L, (∀ x ∈ c, I64 x) ∧ c.length < 8796093022000
theorem numL_good {L : List (List Int)} (hL : ClsOk L) (n : Int) : (∀ x ∈ (numL L n).1, I64 x ∧ isL x = true) ∧ (numL L n).1.length < 8796093022000 ∧ (numL L n).1.Nodup := by
  unfold numL
  by_cases h : n < 0 ∨ (L.length : Int) ≤ n
  · rw [if_pos h]; exact ⟨(fun x hx => by cases hx), by decide, List.nodup_nil⟩
  · rw [if_neg h]
    have hm : L.getD n.toNat [] ∈ L := by
      have : n.toNat < L.length := by omega
      rw [List.getD_eq_getElem?_getD, List.getElem?_eq_getElem this]; exact List.getElem_mem this
    exact ⟨cleanL_good (hL _ hm).1, Nat.lt_of_le_of_lt (cleanL_length _) (hL _ hm).2, cleanL_nodup _⟩
theorem clause_tells {L : List (List Int)} (hL : ClsOk L) (N n : Int) : Tells (fun k => sequiturref21_clause.f k N L n) (numL L n) := by
  unfold sequiturref21_clause.f numL
  by_cases h0 : n < 0
  · rw [if_pos (Or.inl h0)]; exact Tells.pos h0 (Tells.const _)
  · refine Tells.neg h0 ?_
    by_cases h1 : (L.length : Int) ≤ n
    · rw [if_pos (Or.inr h1)]; exact Tells.pos h1 (Tells.const _)
    · rw [if_neg (by omega)]
      refine Tells.neg (by show ¬ (n ≥ (L.length : Int)); omega) (Tells.pos (by omega) (Tells.pos (by omega) ?_))
      have hlt : n.toNat < L.length := by omega
      have hrd : rd_L3 L n = L.getD n.toNat [] := rfl
      have hm : L.getD n.toNat [] ∈ L := by rw [List.getD_eq_getElem?_getD, List.getElem?_eq_getElem hlt]; exact List.getElem_mem hlt
      rw [hrd]
      exact Tells.bind (r17_Clean_tells _ (hL _ hm).1 (by have := (hL _ hm).2; omega)) (Tells.const _)
theorem numP {L : List (List Int)} (hL : ClsOk L) (n : Int) : NumP L n (numL L n).1 (numL L n).2 := by
  unfold NumP numL
  by_cases h : n < 0 ∨ (L.length : Int) ≤ n
  · rw [if_pos h]; exact Or.inl ⟨rfl, rfl, h⟩
  · rw [if_neg h]
    have hlt : n.toNat < L.length := by omega
    have hm : L.getD n.toNat [] ∈ L := by rw [List.getD_eq_getElem?_getD, List.getElem?_eq_getElem hlt]; exact List.getElem_mem hlt
    exact Or.inr ⟨rfl, by omega, by omega, _, lit_Clean_eq _ (hL _ hm).1 (by have := (hL _ hm).2; omega)⟩
def fal (tr : List Int) (x : Int) : Bool := (plA tr (wrap64 (-x))).isSome
theorem begin_loop (hnd : tr.Nodup) (hl : tr.length < 4611686018427387904) (c : List Int) (hc : c.length < 4611686018427387904) : ∀ (m i : Nat) (ok : Bool), m + i = c.length →
    Tells (fun k => sequiturref21_begin.l0 k c ok (i : Int) tr wy lv br top) (c, ok && (c.drop i).all (fal tr))
  | 0, i, ok, h => by
    refine Tells.succ (fun k => by rw [sequiturref21_begin.l0]) (Tells.neg (by omega) ?_)
    rw [List.drop_of_length_le (by omega), List.all_nil, Bool.and_true]; exact Tells.const _
  | m + 1, i, ok, h => by
    have hlt : i < c.length := by omega
    refine Tells.succ (fun k => by rw [sequiturref21_begin.l0]) (Tells.pos (by omega) ?_)
    rw [rd_at _ _ hlt, w64s hlt hc, List.drop_eq_getElem_cons hlt, List.all_cons]
    cases ok with
    | false =>
      refine Tells.neg (by decide) ?_
      have := begin_loop hnd hl c hc m (i + 1) false (by omega)
      rwa [Bool.false_and] at this ⊢
    | true =>
      refine Tells.pos rfl (Tells.pos (by omega) (Tells.bind (place_tells tr wy lv br top hnd hl _) ?_))
      have := begin_loop hnd hl c hc m (i + 1) (decide (plD tr (wrap64 (-c[i])) ≥ 0)) (by omega)
      have e : decide (plD tr (wrap64 (-c[i])) ≥ 0) = fal tr c[i] := by
        unfold fal
        cases hh : plA tr (wrap64 (-c[i])) with
        | none => exact decide_eq_false (by have := plD_neg.2 hh; omega)
        | some a => exact decide_eq_true (by
            have : ¬ plD tr (wrap64 (-c[i])) < 0 := fun h => by rw [plD_neg.1 h] at hh; cases hh
            omega)
      rw [e] at this
      rw [Bool.true_and, e]; exact this
theorem begin_tells (hnd : tr.Nodup) (hl : tr.length < 4611686018427387904) {L : List (List Int)} (hL : ClsOk L) (N : Int) :
    Tells (fun k => sequiturref21_begin.f k tr wy lv br top N L) ((numL L br).1, (numL L br).2 && (numL L br).1.all (fal tr)) := by
  unfold sequiturref21_begin.f
  refine Tells.bind (clause_tells hL N br) ?_
  have := begin_loop tr wy lv br top hnd hl (numL L br).1 (by have := (numL_good hL br).2.1; omega) (numL L br).1.length 0 (numL L br).2 rfl
  rwa [List.drop_zero] at this
theorem nodup_le21 : ∀ {K L : List Int}, K.Nodup → (∀ x ∈ K, x ∈ L) → K.length ≤ L.length
  | [], _, _, _ => Nat.zero_le _
  | x :: K, L, hn, h => by
    have hx := h x List.mem_cons_self
    have hn2 := List.nodup_cons.1 hn
    have := @nodup_le21 K (L.erase x) hn2.2 (fun y hy => (List.mem_erase_of_ne (by rintro rfl; exact hn2.1 hy)).2 (h y (List.mem_cons_of_mem _ hy)))
    rw [List.length_erase_of_mem hx] at this
    have : 0 < L.length := List.length_pos_of_mem hx
    rw [List.length_cons]; omega
structure SeenC (tr : List Int) (p : Int → Bool) (m : Int) (cl : List Int) : Prop where
  good : ∀ x ∈ cl, I64 x ∧ isL x = true
  nd : cl.Nodup
  seen : ∀ x ∈ cl, ∃ a, plA tr (wrap64 (-x)) = some a ∧ (p x = true → a < m)
theorem SeenC.fal {tr : List Int} {p : Int → Bool} {m : Int} {cl : List Int} (h : SeenC tr p m cl) : ∀ x ∈ cl, fal tr x = true := fun x hx => by
  obtain ⟨a, ha, _⟩ := h.seen x hx
  unfold Pu.fal; rw [ha]; rfl
theorem SeenC.length {tr : List Int} {p : Int → Bool} {m : Int} {cl : List Int} (h : SeenC tr p m cl) : cl.length ≤ tr.length := by
  have hm : ((cl.map fun x => -x)).Nodup := List.Pairwise.map _ (fun a b (hab : a ≠ b) => by omega) h.nd
  have hs : ∀ y ∈ (cl.map fun x => -x), y ∈ tr := fun y hy => by
    obtain ⟨x, hx, rfl⟩ := List.mem_map.1 hy
    obtain ⟨a, ha, _⟩ := h.seen x hx
    have := plA_mem.1 (show (plA tr (wrap64 (-x))).isSome = true by rw [ha]; rfl)
    rwa [wneg (h.good x hx).1 (h.good x hx).2] at this
  have := nodup_le21 hm hs
  rwa [List.length_map] at this
def LastS (tr : List Int) (s : Int × Bool) (x8 : Int) : Prop := (s = (0, false) ∧ x8 = -1) ∨ (s.2 = true ∧ plA tr (wrap64 (-s.1)) = some x8 ∧ 0 ≤ x8)
theorem last_loop (hnd : tr.Nodup) (hl : tr.length < 4611686018427387904) (cl but : List Int) (hb : but.length < 4611686018427387904) (hc : cl.length < 4611686018427387904) (hs : ∀ x ∈ cl, fal tr x = true) : ∀ (m i : Nat) (s : Int × Bool) (x8 : Int), m + i = cl.length → LastS tr s x8 →
    Tells (fun k => sequiturref21_last.l0 k cl but s.1 x8 (i : Int) tr wy lv br top) (lastP (plA tr) (fun x => !hasL but x) (cl.drop i) s).1
  | 0, i, s, x8, h, _ => by
    refine Tells.succ (fun k => by rw [sequiturref21_last.l0]) (Tells.neg (by omega) ?_)
    rw [List.drop_of_length_le (by omega), lastP]; exact Tells.const _
  | m + 1, i, s, x8, h, hS => by
    have hlt : i < cl.length := by omega
    refine Tells.succ (fun k => by rw [sequiturref21_last.l0]) (Tells.pos (by omega) (Tells.pos (by omega) ?_))
    rw [rd_at _ _ hlt, w64s hlt hc, List.drop_eq_getElem_cons hlt, lastP]
    refine Tells.bind (place_tells tr wy lv br top hnd hl _) ?_
    obtain ⟨a, ha⟩ := Option.isSome_iff_exists.1 (hs cl[i] (List.getElem_mem hlt))
    obtain ⟨an, han, _, _⟩ := plT_inv ha
    have hd : plD tr (wrap64 (-cl[i])) = a := by unfold plD; rw [ha]; rfl
    rw [hd, ha]
    by_cases hgt : a > x8
    · refine Tells.pos hgt (Tells.bind (r17_Has_tells but cl[i] hb) ?_)
      by_cases hh : hasL but cl[i] = true
      · rw [if_neg (by rw [hh]; decide)]
        exact Tells.pos hh (last_loop hnd hl cl but hb hc hs m (i + 1) s x8 (by omega) hS)
      · rw [if_pos (by rw [Bool.eq_false_iff.2 hh]; rfl)]
        have e : (if s.2 = true then if (plA tr (wrap64 (-s.1))).getD 0 < (some a).getD 0 then (cl[i], true) else s else (cl[i], true)) = (cl[i], true) := by
          rcases hS with ⟨h1, _⟩ | ⟨h1, h2, _⟩
          · rw [h1]; rfl
          · rw [if_pos h1, h2, if_pos (by show x8 < a; omega)]
        rw [e]
        exact Tells.neg hh (last_loop hnd hl cl but hb hc hs m (i + 1) (cl[i], true) a (by omega) (Or.inr ⟨rfl, ha, by omega⟩))
    · refine Tells.neg hgt ?_
      have h1 : s.2 = true ∧ plA tr (wrap64 (-s.1)) = some x8 ∧ 0 ≤ x8 := hS.resolve_left (fun ⟨_, h⟩ => by omega)
      have e : (if (!hasL but cl[i]) = true then if s.2 = true then if (plA tr (wrap64 (-s.1))).getD 0 < (some a).getD 0 then (cl[i], true) else s else (cl[i], true) else s) = s := by
        rw [if_pos h1.1, h1.2.1, if_neg (show ¬ ((some x8).getD 0 < (some a).getD 0) by show ¬ x8 < a; omega), ite_self]
      rw [e]
      exact last_loop hnd hl cl but hb hc hs m (i + 1) s x8 (by omega) hS
theorem last_tells (hnd : tr.Nodup) (hl : tr.length < 4611686018427387904) (cl but : List Int) (hb : but.length < 4611686018427387904) (hc : cl.length < 4611686018427387904) (hs : ∀ x ∈ cl, fal tr x = true) :
    Tells (fun k => sequiturref21_last.f k tr wy lv br top cl but) (lastP (plA tr) (fun x => !hasL but x) cl (0, false)).1 :=
  last_loop tr wy lv br top hnd hl cl but hb hc hs cl.length 0 (0, false) (-1) rfl (Or.inl ⟨rfl, rfl⟩)
theorem lastP_inv (pl : Int → Option Int) (p : Int → Bool) : ∀ (cl : List Int) (s : Int × Bool), let r := lastP pl p cl s
    (r = s ∨ (r.2 = true ∧ r.1 ∈ cl ∧ p r.1 = true)) ∧ (s.2 = true → r.2 = true ∧ (pl (wrap64 (-s.1))).getD 0 ≤ (pl (wrap64 (-r.1))).getD 0) ∧ ∀ x ∈ cl, p x = true → r.2 = true ∧ (pl (wrap64 (-x))).getD 0 ≤ (pl (wrap64 (-r.1))).getD 0
  | [], s => ⟨Or.inl rfl, fun h => ⟨h, Int.le_refl _⟩, fun x hx => by cases hx⟩
  | y :: t, s => by
    intro r
    have hr : r = lastP pl p (y :: t) s := rfl
    rw [lastP] at hr
    obtain ⟨s', hs'⟩ : ∃ s', (if p y = true then (if s.2 = true then (if (pl (wrap64 (-s.1))).getD 0 < (pl (wrap64 (-y))).getD 0 then (y, true) else s) else (y, true)) else s) = s' := ⟨_, rfl⟩
    rw [hs'] at hr
    obtain ⟨i1, i2, i3⟩ := lastP_inv pl p t s'
    rw [← hr] at i1 i2 i3
    have key : (s' = s ∨ (s' = (y, true) ∧ p y = true)) ∧ (s.2 = true → s'.2 = true ∧ (pl (wrap64 (-s.1))).getD 0 ≤ (pl (wrap64 (-s'.1))).getD 0) ∧ (p y = true → s'.2 = true ∧ (pl (wrap64 (-y))).getD 0 ≤ (pl (wrap64 (-s'.1))).getD 0) := by
      rw [← hs']
      by_cases hp : p y = true
      · rw [if_pos hp]
        by_cases h2 : s.2 = true
        · rw [if_pos h2]
          by_cases h3 : (pl (wrap64 (-s.1))).getD 0 < (pl (wrap64 (-y))).getD 0
          · rw [if_pos h3]; exact ⟨Or.inr ⟨rfl, hp⟩, fun _ => ⟨rfl, Int.le_of_lt h3⟩, fun _ => ⟨rfl, Int.le_refl _⟩⟩
          · rw [if_neg h3]; exact ⟨Or.inl rfl, fun _ => ⟨h2, Int.le_refl _⟩, fun _ => ⟨h2, by omega⟩⟩
        · rw [if_neg h2]; exact ⟨Or.inr ⟨rfl, hp⟩, fun h => absurd h h2, fun _ => ⟨rfl, Int.le_refl _⟩⟩
      · rw [if_neg hp]; exact ⟨Or.inl rfl, fun h => ⟨h, Int.le_refl _⟩, fun h => absurd h hp⟩
    obtain ⟨k1, k2, k3⟩ := key
    refine ⟨?_, fun h => ?_, fun x hx hp => ?_⟩
    · rcases i1 with h | ⟨h1, h2, h3⟩
      · rcases k1 with e | ⟨e, hp⟩
        · exact Or.inl (h.trans e)
        · rw [h, e]; exact Or.inr ⟨rfl, List.mem_cons_self, hp⟩
      · exact Or.inr ⟨h1, List.mem_cons_of_mem _ h2, h3⟩
    · obtain ⟨h1, h2⟩ := k2 h
      obtain ⟨h3, h4⟩ := i2 h1
      exact ⟨h3, Int.le_trans h2 h4⟩
    · rcases List.mem_cons.1 hx with e | hx
      · rw [e] at hp ⊢
        obtain ⟨h1, h2⟩ := k3 hp
        obtain ⟨h3, h4⟩ := i2 h1
        exact ⟨h3, Int.le_trans h2 h4⟩
      · exact i3 x hx hp
def stepN (tr : List Int) (L : List (List Int)) (cl : List Int) (l n : Int) : List Int × Int × Bool :=
  if ((numL L n).2 && hasL (numL L n).1 (wrap64 (-l)) && (numL L n).1.all (okx (plA tr) l)) = true then ((resolveL cl (numL L n).1 l).1, n, (resolveL cl (numL L n).1 l).2 == 0) else ([], 0, false)
def stepL (tr wy : List Int) (L : List (List Int)) (cl : List Int) (l : Int) : List Int × Int × Bool :=
  if plD tr (wrap64 (-l)) < 0 then ([], 0, false) else stepN tr L cl l (wy.getD (plD tr (wrap64 (-l))).toNat 0)
theorem step_loop (hnd : tr.Nodup) (hl : tr.length < 4611686018427387904) (cl r : List Int) (l n a : Int) (ha : plA tr (wrap64 (-l)) = some a) (hr : r.length < 4611686018427387904) {v : List Int × Int × Bool} (hv : r.all (okx (plA tr) l) = false → v = ([], 0, false))
    (ht : r.all (okx (plA tr) l) = true → Tells (fun k => (sequiturref17_Resolve.f k cl r l).bind fun bt391 => (some (bt391.1, n, (bt391.2 == 0)))) v) : ∀ (m i : Nat), m + i = r.length → (r.drop i).all (okx (plA tr) l) = r.all (okx (plA tr) l) →
    Tells (fun k => sequiturref21_step.l0 k cl l a n r (i : Int) tr wy lv br top) v
  | 0, i, h, he => by
    refine Tells.succ (fun k => by rw [sequiturref21_step.l0]) (Tells.neg (by omega) ?_)
    rw [List.drop_of_length_le (by omega)] at he
    exact ht he.symm
  | m + 1, i, h, he => by
    have hlt : i < r.length := by omega
    refine Tells.succ (fun k => by rw [sequiturref21_step.l0]) (Tells.pos (by omega) (Tells.pos (by omega) ?_))
    rw [rd_at _ _ hlt, w64s hlt hr]
    rw [List.drop_eq_getElem_cons hlt, List.all_cons] at he
    refine Tells.bind (place_tells tr wy lv br top hnd hl _) ?_
    by_cases e : r[i] = wrap64 (-l)
    · refine Tells.pos e (step_loop hnd hl cl r l n a ha hr hv ht m (i + 1) (by omega) ?_)
      have : okx (plA tr) l r[i] = true := by unfold okx; rw [e]; simp
      rw [this, Bool.true_and] at he; exact he
    · refine Tells.neg e ?_
      have hk : okx (plA tr) l r[i] = ((plA tr (wrap64 (-r[i]))).isSome && decide ((plA tr (wrap64 (-r[i]))).getD 0 < a)) := by
        unfold okx; rw [beq_eq_false_iff_ne.2 e, Bool.false_or, ha]; rfl
      rw [hk] at he
      unfold plD
      cases hp : plA tr (wrap64 (-r[i])) with
      | none =>
        rw [hp] at he
        refine Tells.pos (by decide) ?_
        rw [hv (he.symm.trans rfl)]; exact Tells.const _
      | some b =>
        rw [hp] at he
        obtain ⟨bn, hbn, _⟩ := plT_inv hp
        refine Tells.neg (by show ¬ b < 0; omega) ?_
        by_cases hba : b < a
        · refine Tells.neg (by show ¬ b ≥ a; omega) (step_loop hnd hl cl r l n a ha hr hv ht m (i + 1) (by omega) ?_)
          rw [← he, show decide ((some b).getD 0 < a) = true from decide_eq_true hba]; rfl
        · refine Tells.pos (by show b ≥ a; omega) ?_
          rw [show decide ((some b).getD 0 < a) = false from decide_eq_false hba] at he
          rw [hv (he.symm.trans rfl)]; exact Tells.const _
theorem step_tells (hnd : tr.Nodup) (hl : tr.length < 4611686018427387904) (hw : wy.length = tr.length) {L : List (List Int)} (hL : ClsOk L) (N : Int) (cl : List Int) (l : Int) (hcl : ∀ x ∈ cl, I64 x) (hlen : cl.length < 8796093022000) :
    Tells (fun k => sequiturref21_step.f k tr wy lv br top N L cl l) (stepL tr wy L cl l) := by
  unfold sequiturref21_step.f stepL
  refine Tells.bind (place_tells tr wy lv br top hnd hl _) ?_
  refine Tells.ite (fun _ => Tells.const _) (fun h0 => ?_)
  have hlt := @plD_lt tr (wrap64 (-l))
  refine Tells.pos (by omega) (Tells.pos (by rw [hw]; exact hlt) ?_)
  obtain ⟨a, ha⟩ : ∃ a, plA tr (wrap64 (-l)) = some a := by
    cases h : plA tr (wrap64 (-l)) with
    | none => exact absurd (plD_neg.2 h) h0
    | some a => exact ⟨a, rfl⟩
  have hd : plD tr (wrap64 (-l)) = a := by unfold plD; rw [ha]; rfl
  rw [hd] at hlt h0 ⊢
  have hrd : rd wy a = wy.getD a.toNat 0 := by unfold rd; rw [List.getD_eq_getElem?_getD]
  rw [hrd]
  obtain ⟨n, hn⟩ : ∃ n, wy.getD a.toNat 0 = n := ⟨_, rfl⟩
  rw [hn]
  refine Tells.bind (clause_tells hL N n) ?_
  have hg := numL_good hL n
  unfold stepN
  cases hok : (numL L n).2 with
  | false =>
    rw [Bool.false_and, Bool.false_and, if_neg (by decide)]
    refine Tells.neg (by decide) (Tells.succ (fun k => by rw [sequiturref21_step.j0]) (Tells.pos rfl ?_))
    exact Tells.const _
  | true =>
    refine Tells.pos rfl (Tells.bind (r17_Has_tells _ _ (by omega)) ?_)
    cases hh : hasL (numL L n).1 (wrap64 (-l)) with
    | false =>
      rw [Bool.and_false, Bool.false_and, if_neg (by decide)]
      exact Tells.succ (fun k => by rw [sequiturref21_step.j0]) (Tells.pos (by decide) (Tells.const _))
    | true =>
      refine Tells.succ (fun k => by rw [sequiturref21_step.j0]) (Tells.neg (by decide) ?_)
      rw [Bool.true_and, Bool.true_and]
      refine step_loop tr wy lv br top hnd hl cl (numL L n).1 l n a ha (by omega) (fun h => ?_) (fun h => ?_) (numL L n).1.length 0 (by simp) (by simp)
      · rw [h]; rfl
      · rw [h, if_pos rfl]
        exact Tells.bind (r17_Resolve_tells cl _ l hcl (fun x hx => (hg.1 x hx).1) (by omega)) (Tells.const _)
def lvD (tr lv : List Int) (x : Int) : Int := if plD tr (wrap64 (-x)) < 0 then -1 else lv.getD (plD tr (wrap64 (-x))).toNat 0
theorem level_tells (hnd : tr.Nodup) (hl : tr.length < 4611686018427387904) (hv : lv.length = tr.length) (x : Int) : Tells (fun k => sequiturref21_level.f k tr wy lv br top x) (lvD tr lv x) := by
  unfold sequiturref21_level.f lvD
  refine Tells.bind (place_tells tr wy lv br top hnd hl _) (Tells.ite (fun _ => Tells.const _) (fun h0 => ?_))
  have hlt := @plD_lt tr (wrap64 (-x))
  refine Tells.pos (by omega) (Tells.pos (by rw [hv]; exact hlt) ?_)
  have hrd : rd lv (plD tr (wrap64 (-x))) = lv.getD (plD tr (wrap64 (-x))).toNat 0 := by unfold rd; rw [List.getD_eq_getElem?_getD]
  rw [hrd]; exact Tells.const _
def topN (tr lv : List Int) (top : Int) (cl : List Int) : Nat := (cl.filter fun x => lvD tr lv x == top).length
def doneL (tr lv : List Int) (top : Int) (cl : List Int) : Bool := if top = 0 then ((cl.length : Int) == 0) else decide ((topN tr lv top cl : Int) ≤ 1)
theorem done_loop (hnd : tr.Nodup) (hl : tr.length < 4611686018427387904) (hv : lv.length = tr.length) (cl : List Int) (hc : cl.length < 4611686018427387904) : ∀ (m i q : Nat), m + i = cl.length → q ≤ i → q + topN tr lv top (cl.drop i) = topN tr lv top cl →
    Tells (fun k => sequiturref21_done.l0 k cl (q : Int) (i : Int) tr wy lv br top) (doneL tr lv top cl)
  | 0, i, q, h, _, hq => by
    refine Tells.succ (fun k => by rw [sequiturref21_done.l0]) (Tells.neg (by omega) ?_)
    rw [List.drop_of_length_le (by omega)] at hq
    have hq2 : q = topN tr lv top cl := hq
    unfold doneL
    rw [← hq2]
    exact Tells.ite (fun _ => Tells.const _) (fun _ => Tells.const _)
  | m + 1, i, q, h, hqi, hq => by
    have hlt : i < cl.length := by omega
    refine Tells.succ (fun k => by rw [sequiturref21_done.l0]) (Tells.pos (by omega) (Tells.pos (by omega) ?_))
    rw [rd_at _ _ hlt, w64s hlt hc]
    rw [List.drop_eq_getElem_cons hlt] at hq
    refine Tells.bind (level_tells tr wy lv br top hnd hl hv _) ?_
    unfold topN at hq
    by_cases e : lvD tr lv cl[i] = top
    · rw [List.filter_cons_of_pos (by simp [e]), List.length_cons] at hq
      refine Tells.pos e ?_
      rw [show wrap64 ((q : Int) + 1) = ((q + 1 : Nat) : Int) from w64s (n := q + 1) (by omega) (by omega)]
      exact done_loop hnd hl hv cl hc m (i + 1) (q + 1) (by omega) (by omega) (by unfold topN; omega)
    · rw [List.filter_cons_of_neg (by simp [e])] at hq
      exact Tells.neg e (done_loop hnd hl hv cl hc m (i + 1) q (by omega) (by omega) hq)
theorem done_tells (hnd : tr.Nodup) (hl : tr.length < 4611686018427387904) (hv : lv.length = tr.length) (cl : List Int) (hc : cl.length < 4611686018427387904) : Tells (fun k => sequiturref21_done.f k tr wy lv br top cl) (doneL tr lv top cl) :=
  done_loop tr wy lv br top hnd hl hv cl hc cl.length 0 0 rfl (Nat.le_refl _) (by simp)
end
theorem index_from (c : List Int) (x : Int) (hs : c.length < 4611686018427387904) : ∀ (m i k : Nat), m + i = c.length → m < k →
    ∃ r, slices_Index_int_int.l0 k c x (c.length : Int) (i : Int) = some r ∧ decide (r ≥ 0) = (c.drop i).any fun y => y == x
  | 0, i, k + 1, h, _ => by
    refine ⟨-1, ?_, ?_⟩
    · rw [slices_Index_int_int.l0, if_neg (by omega)]
    · rw [List.drop_of_length_le (by omega)]; rfl
  | m + 1, i, k + 1, h, hk => by
    have hi : i < c.length := by omega
    rw [List.drop_eq_getElem_cons hi, List.any_cons, slices_Index_int_int.l0, if_pos (by omega), if_pos (by omega), if_pos (by omega), rd_at _ _ hi]
    by_cases he : x = c[i]
    · refine ⟨(i : Int), if_pos he, ?_⟩
      rw [← he]; simp
    · obtain ⟨r, hr, hd⟩ := index_from c x hs m (i + 1) k (by omega) (by omega)
      refine ⟨r, ?_, ?_⟩
      · rw [if_neg he, w64s hi hs]; exact hr
      · rw [hd, show (c[i] == x) = false from beq_eq_false_iff_ne.2 (fun e => he e.symm), Bool.false_or]
theorem contains_from (c : List Int) (hs : c.length < 4611686018427387904) (k : Nat) (hk : c.length < k) (x : Int) : slices_Contains_int_int.f k c x = some (c.any (· == x)) := by
  obtain ⟨r, hr, hd⟩ := index_from c x hs c.length 0 k rfl hk
  unfold slices_Contains_int_int.f slices_Index_int_int.f
  rw [show slices_Index_int_int.l0 k c x (c.length : Int) 0 = some r from hr]
  show some (decide (r ≥ 0)) = _
  rw [hd, List.drop_zero]
theorem varW_abs {x : Int} (h : I64 x) (hl : isL x = true) : varW x = (x.natAbs : Int) := by
  unfold varW
  rw [wneg h hl]
  split <;> omega
theorem absW_abs {x : Int} (h : I64 x) (hl : isL x = true) : absW x = (x.natAbs : Int) := by
  unfold absW
  rw [wneg h hl]
  split <;> omega
theorem varW_wf {x : Int} (h : I64 x) (hl : isL x = true) : (Lit.int .i64 (varW x)).wf = true := by
  rw [varW_abs h hl]
  have h1 := h.lo
  have h2 := h.hi
  have h3 : x ≠ -9223372036854775808 := by
    have := of_decide_eq_true (show decide (x ≠ 0 ∧ x ≠ -9223372036854775808) = true from hl)
    exact this.2
  simp only [Lit.wf, Bool.and_eq_true, decide_eq_true_eq]
  have a : IntKind.i64.min = -9223372036854775808 := by decide
  have b : IntKind.i64.max = 9223372036854775807 := by decide
  omega
structure TrOk (E : Eng) : Prop where
  nd : E.tr.Nodup
  good : ∀ x ∈ E.tr, I64 x ∧ isL x = true
  len : E.tr.length < 1000000
theorem TrOk.zero {E : Eng} (h : TrOk E) : plA E.tr (wrap64 (-0)) = none := by
  cases e : plA E.tr (wrap64 (-0)) with
  | none => rfl
  | some a =>
    have := plA_mem.1 (show (plA E.tr (wrap64 (-0))).isSome = true by rw [e]; rfl)
    have h0 := (h.good _ this).2
    rw [show wrap64 (-0) = 0 from w64 (by decide) (by decide)] at h0
    exact absurd h0 (by decide)
theorem whys_at {E : Eng} {l a : Int} (h : I64 l) (hl : isL l = true) (ha : plA E.tr (wrap64 (-l)) = some a) : E.whys.getD a.toNat 0 = E.why (varW l) ∧ E.levs.getD a.toNat 0 = E.level (varW l) := by
  obtain ⟨n, rfl, hn, hx⟩ := plT_inv ha
  have hxx : E.tr[n] = -l := by
    rw [wneg h hl, List.getD_eq_getElem?_getD, List.getElem?_eq_getElem hn] at hx; exact hx
  have hab : absW (-l) = varW l := by
    have := isL_neg h hl
    rw [absW_abs this.2 this.1, varW_abs h hl]; omega
  unfold Eng.whys Eng.levs
  simp only [Int.toNat_natCast]
  rw [List.getD_eq_getElem?_getD, List.getD_eq_getElem?_getD, List.getElem?_map, List.getElem?_map, List.getElem?_eq_getElem hn, hxx, ← hab]
  exact ⟨rfl, rfl⟩
theorem lastP_congr (pl : Int → Option Int) {p q : Int → Bool} : ∀ (cl : List Int) (s : Int × Bool), (∀ x ∈ cl, p x = q x) → lastP pl p cl s = lastP pl q cl s
  | [], _, _ => rfl
  | x :: t, s, h => by
    rw [lastP, lastP, h x List.mem_cons_self]
    exact lastP_congr pl t _ (fun y hy => h y (List.mem_cons_of_mem _ hy))
theorem stepP_of {L : List (List Int)} (hL : ClsOk L) (E : Eng) {cl : List Int} {l : Int} (h : I64 l) (hl : isL l = true) (hcl : ∀ x ∈ cl, I64 x) (hlen : cl.length < 8796093022000) :
    ∃ K, ∀ k, K ≤ k → StepP k E L (plA E.tr) cl l (stepN E.tr L cl l (E.why (varW l))).2.2 (resolveL cl (numL L (E.why (varW l))).1 l).1 := by
  obtain ⟨n, hn⟩ : ∃ n, E.why (varW l) = n := ⟨_, rfl⟩
  have hg := numL_good hL n
  have hneg := isL_neg h hl
  obtain ⟨K, t⟩ := lit_Resolve_tells cl (numL L n).1 l hcl (fun x hx => (hg.1 x hx).1) (by omega)
  refine ⟨K + (numL L n).1.length + 1, fun k hk => ⟨varW_wf h hl, (numL L n).1, (numL L n).2, (numL L n).1.any (· == wrap64 (-l)), (resolveL cl (numL L n).1 l).2, ?_, fun _ => contains_from _ (by omega) k (by omega) _, fun _ _ _ => by rw [hn]; exact t k (by omega), ?_⟩⟩
  · rw [hn]; exact numP hL n
  · rw [hn]
    unfold stepN
    have hh : hasL (numL L n).1 (wrap64 (-l)) = (numL L n).1.any (· == wrap64 (-l)) := by unfold hasL; rw [wneg h hl, hneg.1, Bool.true_and]
    rw [hh]
    cases (numL L n).2 && (numL L n).1.any (· == wrap64 (-l)) && (numL L n).1.all (okx (plA E.tr) l) <;> rfl
theorem next_seen {E : Eng} {L : List (List Int)} (hL : ClsOk L) {p : Int → Bool} {m n : Int} {cl : List Int} {l : Int} (hc : SeenC E.tr p (m + 1) cl) (hm : l ∈ cl) (hp : p l = true)
    (hlast : ∀ x ∈ cl, p x = true → (plA E.tr (wrap64 (-x))).getD 0 ≤ (plA E.tr (wrap64 (-l))).getD 0) (hs : (stepN E.tr L cl l n).2.2 = true) :
    SeenC E.tr p m (stepN E.tr L cl l n).1 ∧ (stepN E.tr L cl l n).2.1 = n ∧ (stepN E.tr L cl l n).1 = (resolveL cl (numL L n).1 l).1 := by
  obtain ⟨hgl, hll⟩ := hc.good l hm
  obtain ⟨al, hal, halm⟩ := hc.seen l hm
  have hg := numL_good hL n
  unfold stepN at hs ⊢
  by_cases hq : ((numL L n).2 && hasL (numL L n).1 (wrap64 (-l)) && (numL L n).1.all (okx (plA E.tr) l)) = true
  · rw [if_pos hq] at hs ⊢
    refine ⟨?_, rfl, rfl⟩
    have hall := (Bool.and_eq_true _ _).mp hq |>.2
    have hr : resolveL cl (numL L n).1 l = (cleanL (parents cl (numL L n).1 l), 0) := by
      have hs : ((resolveL cl (numL L n).1 l).2 == 0) = true := hs
      unfold resolveL finR at hs ⊢
      by_cases h1 : (hasL cl l && hasL (numL L n).1 (wrap64 (-l))) = true
      · rw [if_pos h1] at hs ⊢
        by_cases h2 : oppL (cleanL (parents cl (numL L n).1 l)) = true
        · rw [if_pos h2] at hs; exact absurd hs (by decide)
        · rw [if_neg h2]
      · rw [if_neg h1] at hs; exact absurd hs (by decide)
    have hI : ∀ x ∈ parents cl (numL L n).1 l, I64 x := parents_good (fun x hx => (hc.good x hx).1) (fun x hx => (hg.1 x hx).1)
    rw [hr]
    refine ⟨cleanL_good hI, cleanL_nodup _, fun x hx => ?_⟩
    have hx2 := (cleanL_mem.1 hx).1
    unfold parents at hx2
    rcases List.mem_append.1 hx2 with hx2 | hx2
    · obtain ⟨hxc, hne⟩ := List.mem_filter.1 hx2
      have hne : x ≠ l := bne_iff_ne.1 hne
      obtain ⟨a, ha, _⟩ := hc.seen x hxc
      refine ⟨a, ha, fun hpx => ?_⟩
      have hle := hlast x hxc hpx
      rw [ha, hal] at hle
      have hle : a ≤ al := hle
      have := halm hp
      have hna : a ≠ al := fun e => by
        obtain ⟨n1, e1, _, e2⟩ := plT_inv ha
        obtain ⟨n2, e3, _, e4⟩ := plT_inv hal
        have e5 : n1 = n2 := by omega
        rw [e5, e4, wneg hgl hll, wneg (hc.good x hxc).1 (hc.good x hxc).2] at e2
        exact hne (by omega)
      omega
    · obtain ⟨hxr, hne⟩ := List.mem_filter.1 hx2
      have hne : x ≠ wrap64 (-l) := bne_iff_ne.1 hne
      have hok := List.all_eq_true.1 hall x hxr
      unfold okx at hok
      rw [show (x == wrap64 (-l)) = false from beq_eq_false_iff_ne.2 hne, Bool.false_or, hal] at hok
      obtain ⟨h1, h2⟩ := (Bool.and_eq_true _ _).mp hok
      obtain ⟨a, ha⟩ := Option.isSome_iff_exists.1 h1
      refine ⟨a, ha, fun _ => ?_⟩
      rw [ha] at h2
      have h2 : a < al := of_decide_eq_true h2
      have := halm hp
      omega
  · rw [if_neg hq] at hs; cases hs
theorem back_tells {ρ : Type} {E : Eng} (hE : TrOk E) {L : List (List Int)} (hL : ClsOk L) {may : Int → Bool} {so : List Int → Bool} {but : List Int} (hmay : ∀ x, isL x = true → may x = !hasL but x) (G : Nat → List Int → List Int → Option ρ) (fin : List Int → List Int → ρ) (bad : ρ)
    (h1 : ∀ m cl fr, SeenC E.tr may m cl → so cl = true → Tells (fun k => G k cl fr) (fin cl fr))
    (h2 : ∀ m cl fr v, SeenC E.tr may m cl → so cl = false → fr.length < 17592186044416 → ((stepL E.tr E.whys L cl (lastP (plA E.tr) (fun x => !hasL but x) cl (0, false)).1).2.2 = true → Tells (fun k => G k (stepL E.tr E.whys L cl (lastP (plA E.tr) (fun x => !hasL but x) cl (0, false)).1).1 (fr ++ [(stepL E.tr E.whys L cl (lastP (plA E.tr) (fun x => !hasL but x) cl (0, false)).1).2.1])) v) →
      ((stepL E.tr E.whys L cl (lastP (plA E.tr) (fun x => !hasL but x) cl (0, false)).1).2.2 = false → v = bad) → Tells (fun k => G k cl fr) v) :
    ∀ (m : Nat) (cl fr : List Int), SeenC E.tr may (m : Int) cl → fr.length + m < 17592186044416 →
      ∃ o : Option (List Int × List Int), (∃ K, ∀ k, K ≤ k → BackP k E L (plA E.tr) may so (m + 1) cl fr o) ∧ Tells (fun k => G k cl fr) (match o with | none => bad | some z => fin z.1 z.2) ∧ ∀ z, o = some z → SeenC E.tr may (m : Int) z.1 ∧ so z.1 = true ∧ z.2.length ≤ fr.length + m := by
  intro m
  induction m with
  | zero =>
    intro cl fr hc hf
    have hwf : WfC cl := fun x hx => varW_wf (hc.good x hx).1 (hc.good x hx).2
    by_cases hso : so cl = true
    · exact ⟨some (cl, fr), ⟨0, fun k _ => ⟨hwf, Or.inl ⟨hso, rfl⟩⟩⟩, h1 _ cl fr hc hso, fun z hz => by injection hz with hz; subst hz; exact ⟨hc, hso, Nat.le_refl _⟩⟩
    · have hso := Bool.eq_false_iff.2 hso
      have hnf : (lastP (plA E.tr) may cl (0, false)) = (0, false) := by
        rcases (lastP_inv (plA E.tr) may cl (0, false)).1 with h | ⟨h, hm, hp⟩
        · exact h
        · obtain ⟨a, ha, ham⟩ := hc.seen _ hm
          obtain ⟨n, hn, _⟩ := plT_inv ha
          have := ham hp
          omega
      have hcg := lastP_congr (plA E.tr) (p := may) (q := fun x => !hasL but x) cl (0, false) (fun x hx => hmay x (hc.good x hx).2)
      refine ⟨none, ⟨0, fun k _ => ⟨hwf, Or.inr (Or.inl ⟨hso, by rw [hnf], rfl⟩)⟩⟩, ?_, fun z hz => by cases hz⟩
      have hst : stepL E.tr E.whys L cl (lastP (plA E.tr) (fun x => !hasL but x) cl (0, false)).1 = ([], 0, false) := by
        rw [← hcg, hnf]
        unfold stepL
        rw [if_pos (plD_neg.2 hE.zero)]
      exact h2 _ cl fr bad hc hso (by omega) (fun h => by rw [hst] at h; cases h) (fun _ => rfl)
  | succ m ih =>
    intro cl fr hc hf
    have hwf : WfC cl := fun x hx => varW_wf (hc.good x hx).1 (hc.good x hx).2
    by_cases hso : so cl = true
    · exact ⟨some (cl, fr), ⟨0, fun k _ => ⟨hwf, Or.inl ⟨hso, rfl⟩⟩⟩, h1 _ cl fr hc hso, fun z hz => by injection hz with hz; subst hz; exact ⟨hc, hso, Nat.le_add_right _ _⟩⟩
    · have hso := Bool.eq_false_iff.2 hso
      have hcg := lastP_congr (plA E.tr) (p := may) (q := fun x => !hasL but x) cl (0, false) (fun x hx => hmay x (hc.good x hx).2)
      obtain ⟨i1, _, i3⟩ := lastP_inv (plA E.tr) may cl (0, false)
      by_cases hfo : (lastP (plA E.tr) may cl (0, false)).2 = true
      · have hml : (lastP (plA E.tr) may cl (0, false)).1 ∈ cl ∧ may (lastP (plA E.tr) may cl (0, false)).1 = true := by
          rcases i1 with h | ⟨_, hm, hp⟩
          · rw [h] at hfo; cases hfo
          · exact ⟨hm, hp⟩
        obtain ⟨l, hl⟩ : ∃ l, (lastP (plA E.tr) may cl (0, false)).1 = l := ⟨_, rfl⟩
        rw [hl] at hml
        have hlast : ∀ x ∈ cl, may x = true → (plA E.tr (wrap64 (-x))).getD 0 ≤ (plA E.tr (wrap64 (-l))).getD 0 := fun x hx hp => by have := (i3 x hx hp).2; rwa [hl] at this
        obtain ⟨hgl, hll⟩ := hc.good l hml.1
        obtain ⟨al, hal, _⟩ := hc.seen l hml.1
        have hlen := hc.length
        have hEl := hE.len
        obtain ⟨K1, t1⟩ := stepP_of hL E hgl hll (fun x hx => (hc.good x hx).1) (by omega : cl.length < 8796093022000)
        have hst : stepL E.tr E.whys L cl (lastP (plA E.tr) (fun x => !hasL but x) cl (0, false)).1 = stepN E.tr L cl l (E.why (varW l)) := by
          rw [← hcg, hl]
          unfold stepL
          have hd : plD E.tr (wrap64 (-l)) = al := by unfold plD; rw [hal]; rfl
          obtain ⟨n, hn, _⟩ := plT_inv hal
          rw [hd, if_neg (by omega), (whys_at hgl hll hal).1]
        by_cases hs : (stepN E.tr L cl l (E.why (varW l))).2.2 = true
        · obtain ⟨n1, n2, n3⟩ := next_seen hL (m := (m : Int)) (by rwa [Int.natCast_add] at hc) hml.1 hml.2 hlast hs
          obtain ⟨o, ⟨K2, t2⟩, t3, t4⟩ := ih (stepN E.tr L cl l (E.why (varW l))).1 (fr ++ [E.why (varW l)]) n1 (by rw [List.length_append, List.length_singleton]; omega)
          refine ⟨o, ⟨K1 + K2, fun k hk => ⟨hwf, Or.inr (Or.inr ⟨hso, hfo, true, (resolveL cl (numL L (E.why (varW l))).1 l).1, ?_, Or.inr ⟨rfl, ?_⟩⟩)⟩⟩, ?_, fun z hz => ?_⟩
          · have := t1 k (by omega); rw [hl]; rwa [hs] at this
          · rw [hl, ← n3]; exact t2 k (by omega)
          · refine h2 _ cl fr _ hc hso (by omega) (fun _ => ?_) (fun h => by rw [hst, hs] at h; cases h)
            rw [hst, n2]; exact t3
          · obtain ⟨z1, z2, z3⟩ := t4 z hz
            refine ⟨⟨z1.good, z1.nd, fun x hx => ?_⟩, z2, by rw [List.length_append, List.length_singleton] at z3; omega⟩
            obtain ⟨a, ha, hb⟩ := z1.seen x hx
            exact ⟨a, ha, fun hp => by have := hb hp; omega⟩
        · have hs := Bool.eq_false_iff.2 hs
          refine ⟨none, ⟨K1, fun k hk => ⟨hwf, Or.inr (Or.inr ⟨hso, hfo, false, (resolveL cl (numL L (E.why (varW l))).1 l).1, ?_, Or.inl ⟨rfl, rfl⟩⟩)⟩⟩, ?_, fun z hz => by cases hz⟩
          · have := t1 k hk; rw [hl]; rwa [hs] at this
          · exact h2 _ cl fr _ hc hso (by omega) (fun h => by rw [hst, hs] at h; cases h) (fun _ => rfl)
      · have hfo := Bool.eq_false_iff.2 hfo
        have hnf : (lastP (plA E.tr) may cl (0, false)) = (0, false) := by
          rcases i1 with h | ⟨h, _, _⟩
          · exact h
          · rw [h] at hfo; cases hfo
        refine ⟨none, ⟨0, fun k _ => ⟨hwf, Or.inr (Or.inl ⟨hso, hfo, rfl⟩)⟩⟩, ?_, fun z hz => by cases hz⟩
        have hst : stepL E.tr E.whys L cl (lastP (plA E.tr) (fun x => !hasL but x) cl (0, false)).1 = ([], 0, false) := by
          rw [← hcg, hnf]
          unfold stepL
          rw [if_pos (plD_neg.2 hE.zero)]
        exact h2 _ cl fr bad hc hso (by omega) (fun h => by rw [hst] at h; cases h) (fun _ => rfl)
theorem lev_at {E : Eng} {p : Int → Bool} {m : Int} {cl : List Int} (h : SeenC E.tr p m cl) {x : Int} (hx : x ∈ cl) : lvD E.tr E.levs x = E.lev x := by
  obtain ⟨a, ha, _⟩ := h.seen x hx
  obtain ⟨hg, hl⟩ := h.good x hx
  obtain ⟨n, hn, _⟩ := plT_inv ha
  unfold lvD Eng.lev
  have hd : plD E.tr (wrap64 (-x)) = a := by unfold plD; rw [ha]; rfl
  rw [hd, if_neg (by omega), (whys_at hg hl ha).2]
theorem lvN_top {E : Eng} {top : Int} : ∀ (cl : List Int) (n : Nat), (∀ x ∈ cl, lvD E.tr E.levs x = E.lev x) → lvN E top cl n = n + topN E.tr E.levs top cl
  | [], n, _ => rfl
  | x :: t, n, h => by
    rw [lvN, lvN_top t _ (fun y hy => h y (List.mem_cons_of_mem _ hy))]
    unfold topN
    rw [← h x List.mem_cons_self]
    by_cases e : lvD E.tr E.levs x = top
    · rw [if_pos e, List.filter_cons_of_pos (by simp [e]), List.length_cons]; omega
    · rw [if_neg e, List.filter_cons_of_neg (by simp [e])]
theorem so_done {E : Eng} {p : Int → Bool} {m : Int} {cl : List Int} (h : SeenC E.tr p m cl) : doneL E.tr E.levs (E.st.length : Int) cl = soF E (E.st.length : Int) cl := by
  unfold doneL soF
  rw [lvN_top cl 0 (fun x hx => lev_at h hx), Nat.zero_add]
  obtain ⟨q, hq⟩ : ∃ q, topN E.tr E.levs (E.st.length : Int) cl = q := ⟨_, rfl⟩
  have hle : q ≤ cl.length := by rw [← hq]; unfold topN; exact List.length_filter_le _ _
  rw [hq]
  by_cases h0 : (E.st.length : Int) = 0
  · rw [if_pos h0, h0]
    by_cases hc : cl.length = 0
    · have : q = 0 := by omega
      rw [this, hc]; rfl
    · rw [beq_eq_false_iff_ne.2 (show (cl.length : Int) ≠ 0 by omega), decide_eq_false hc]
      simp
  · rw [if_neg h0, decide_eq_true (show 0 < (E.st.length : Int) by omega)]
    simp only [Bool.true_or, Bool.and_true]
    by_cases h1 : q ≤ 1
    · rw [decide_eq_true (show (q : Int) ≤ 1 by omega)]
      rcases (show q = 0 ∨ q = 1 by omega) with e | e <;> rw [e] <;> rfl
    · rw [decide_eq_false (show ¬ (q : Int) ≤ 1 by omega), decide_eq_false (show ¬ q = 0 by omega), decide_eq_false (show ¬ q = 1 by omega)]; rfl
theorem most_loop {E : Eng} (hE : TrOk E) {p : Int → Bool} {mm : Int} {cl : List Int} (h : SeenC E.tr p mm cl) (fr : List Int) : ∀ (m i : Nat) (t : Int), m + i = cl.length →
    Tells (fun k => sequiturref21_First.l1 k cl fr t (i : Int) E.tr E.whys E.levs E.br (E.st.length : Int)) (cl, toF E (E.st.length : Int) (cl.drop i) t, fr, 0)
  | 0, i, t, hm => by
    refine Tells.succ (fun k => by rw [sequiturref21_First.l1]) (Tells.neg (by omega) ?_)
    rw [List.drop_of_length_le (by omega), toF]; exact Tells.const _
  | m + 1, i, t, hm => by
    have hlt : i < cl.length := by omega
    have hlen := h.length
    have hl := hE.len
    refine Tells.succ (fun k => by rw [sequiturref21_First.l1]) (Tells.pos (by omega) (Tells.pos (by omega) ?_))
    rw [rd_at _ _ hlt, w64s hlt (by omega), List.drop_eq_getElem_cons hlt, toF]
    refine Tells.bind (level_tells E.tr E.whys E.levs E.br _ hE.nd (by omega) (by unfold Eng.levs; rw [List.length_map]) cl[i]) ?_
    rw [lev_at h (List.getElem_mem hlt)]
    by_cases h1 : E.lev cl[i] < (E.st.length : Int)
    · rw [if_pos h1]
      refine Tells.pos h1 ?_
      by_cases h2 : t < E.lev cl[i]
      · rw [if_pos h2]; exact Tells.pos h2 (most_loop hE h fr m (i + 1) _ (by omega))
      · rw [if_neg h2]; exact Tells.neg h2 (most_loop hE h fr m (i + 1) _ (by omega))
    · rw [if_neg h1]; exact Tells.neg h1 (most_loop hE h fr m (i + 1) _ (by omega))
theorem seen_first {E : Eng} {L : List (List Int)} (hL : ClsOk L) (p : Int → Bool) (n : Int) (h : (numL L n).1.all (fal E.tr) = true) : SeenC E.tr p (E.tr.length : Int) (numL L n).1 := by
  have hg := numL_good hL n
  refine ⟨hg.1, hg.2.2, fun x hx => ?_⟩
  have h1 := List.all_eq_true.1 h x hx
  unfold fal at h1
  obtain ⟨a, ha⟩ := Option.isSome_iff_exists.1 h1
  obtain ⟨n, hn, hl, _⟩ := plT_inv ha
  exact ⟨a, ha, fun _ => by omega⟩
theorem has_nil (x : Int) : hasL [] x = false := by unfold hasL; simp
theorem first_tells {E : Eng} (hE : TrOk E) {L : List (List Int)} (hL : ClsOk L) (N : Int) : ∃ cl tv fr g, (∃ K, ∀ k, K ≤ k → FirstP k (E.tr.length + 1) E L cl tv fr g) ∧
    Tells (fun k => sequiturref21_First.f k E.tr E.whys E.levs E.br (E.st.length : Int) N L) (cl, tv, fr, g) ∧ cl.length < 2000000 ∧ fr.length < 2000000 ∧
    (g = 0 → 0 ≤ E.br ∧ SeenC E.tr (fun _ => true) (E.tr.length : Int) cl ∧ soF E (E.st.length : Int) cl = true ∧ tv = toF E (E.st.length : Int) cl 0) := by
  have hl := hE.len
  have hwl : E.whys.length = E.tr.length := by unfold Eng.whys; rw [List.length_map]
  have hvl : E.levs.length = E.tr.length := by unfold Eng.levs; rw [List.length_map]
  unfold sequiturref21_First.f
  by_cases hb : E.br < 0
  · exact ⟨[], 0, [], 3, ⟨0, fun k _ => Or.inl ⟨hb, rfl, rfl, rfl, rfl⟩⟩, Tells.pos hb (Tells.const _), by decide, by decide, fun h => by cases h⟩
  have hbt := begin_tells E.tr E.whys E.levs E.br (E.st.length : Int) hE.nd (by omega) hL N
  by_cases hok : ((numL L E.br).2 && (numL L E.br).1.all (fal E.tr)) = true
  · have hall := (Bool.and_eq_true _ _).mp hok |>.2
    have hseen := seen_first hL (fun _ => true) E.br hall
    obtain ⟨o, ⟨K, t1⟩, t2, t3⟩ := back_tells hE hL (may := fun _ => true) (so := soF E (E.st.length : Int)) (but := []) (fun x _ => by rw [has_nil]; rfl) (fun k cl fr => sequiturref21_First.l0 k cl fr E.tr E.whys E.levs E.br (E.st.length : Int) N L) (fun cl fr => (cl, toF E (E.st.length : Int) cl 0, fr, 0)) ([], 0, [], 1)
      (fun m cl fr hc hso => by
        have hcl := hc.length
        refine Tells.succ (fun k => by rw [sequiturref21_First.l0]) (Tells.bind (done_tells E.tr E.whys E.levs E.br _ hE.nd (by omega) hvl cl (by omega)) ?_)
        rw [so_done hc, hso]
        exact Tells.pos rfl (most_loop hE hc fr cl.length 0 0 rfl))
      (fun m cl fr v hc hso hfr g1 g2 => by
        have hcl := hc.length
        refine Tells.succ (fun k => by rw [sequiturref21_First.l0]) (Tells.bind (done_tells E.tr E.whys E.levs E.br _ hE.nd (by omega) hvl cl (by omega)) ?_)
        rw [so_done hc, hso]
        refine Tells.neg (by decide) (Tells.bind (last_tells E.tr E.whys E.levs E.br _ hE.nd (by omega) cl [] (by decide) (by omega) hc.fal) (Tells.bind (step_tells E.tr E.whys E.levs E.br _ hE.nd (by omega) hwl hL N cl _ (fun x hx => (hc.good x hx).1) (by omega)) ?_))
        by_cases hs : (stepL E.tr E.whys L cl (lastP (plA E.tr) (fun x => !hasL [] x) cl (0, false)).1).2.2 = true
        · exact Tells.pos hs (Tells.pos hfr (g1 hs))
        · refine Tells.neg hs ?_
          rw [g2 (Bool.eq_false_iff.2 hs)]; exact Tells.const _)
      E.tr.length (numL L E.br).1 [E.br] hseen (by rw [List.length_singleton]; omega)
    have hR : Tells (fun k => (sequiturref21_begin.f k E.tr E.whys E.levs E.br (E.st.length : Int) N L).bind fun bt403 => (if bt403.2 = true then (sequiturref21_First.l0 k bt403.1 (([E.br] : List Int)) E.tr E.whys E.levs E.br (E.st.length : Int) N L) else (some (([] : List Int), 0, ([] : List Int), 1)))) _ := Tells.bind hbt (Tells.pos hok t2)
    cases o with
    | none => exact ⟨[], 0, [], 1, ⟨K, fun k hk => Or.inr ⟨by omega, _, _, numP hL E.br, Or.inr ⟨hok, none, t1 k hk, Or.inl ⟨rfl, rfl, rfl, rfl, rfl⟩⟩⟩⟩, Tells.neg hb hR, by decide, by decide, fun h => by cases h⟩
    | some z =>
      obtain ⟨z1, z2, z3⟩ := t3 z rfl
      have := z1.length
      rw [List.length_singleton] at z3
      refine ⟨z.1, toF E (E.st.length : Int) z.1 0, z.2, 0, ⟨K, fun k hk => Or.inr ⟨by omega, _, _, numP hL E.br, Or.inr ⟨hok, some z, t1 k hk, Or.inr ⟨rfl, fun x hx => varW_wf (z1.good x hx).1 (z1.good x hx).2, rfl, rfl⟩⟩⟩⟩, Tells.neg hb hR, by omega, by omega, fun _ => ⟨by omega, z1, z2, rfl⟩⟩
  · have hok := Bool.eq_false_iff.2 hok
    refine ⟨[], 0, [], 1, ⟨0, fun k _ => Or.inr ⟨by omega, _, _, numP hL E.br, Or.inl ⟨hok, rfl, rfl, rfl, rfl⟩⟩⟩, Tells.neg hb (Tells.bind hbt (Tells.neg (by show ¬ ((numL L E.br).2 && (numL L E.br).1.all (fal E.tr)) = true; rw [hok]; decide) (Tells.const _))), by decide, by decide, fun h => by cases h⟩
theorem follow_mono : ∀ (k : Nat) (E : Eng) (i : Nat) {r : Eng}, Eng.follow k E i = some r → Eng.follow (k + 1) E i = some r
  | 0, E, i, r, h => by cases h
  | k + 1, E, i, r, h => by
    rw [Eng.follow] at h ⊢
    by_cases hi : i < E.tr.length
    · rw [if_pos hi] at h ⊢
      obtain ⟨q, hq, h⟩ := Option.bind_eq_some_iff.mp h
      rw [hq]
      show (if q.2 = true then some q.1 else Eng.follow (k + 1) q.1 (i + 1)) = some r
      by_cases hb : q.2 = true
      · rw [if_pos hb] at h ⊢; exact h
      · rw [if_neg hb] at h ⊢; exact follow_mono k q.1 (i + 1) h
    · rw [if_neg hi] at h ⊢; exact h
theorem settle_mono {k : Nat} {E r : Eng} (h : Eng.settle k E = some r) : Eng.settle (k + 1) E = some r := by
  unfold Eng.settle at h ⊢
  obtain ⟨q, hq, h⟩ := Option.bind_eq_some_iff.mp h
  rw [hq]
  exact follow_mono k q E.tr.length h
theorem leO_some {α : Type} {a b : Option α} (h : LeO a b) {v : α} (e : a = some v) : b = some v := h v e
theorem push_mono {k : Nat} {E : Eng} {l : Int} {r : Eng × Bool} (h : Eng.push k E l = some r) : Eng.push (k + 1) E l = some r := by
  unfold Eng.push at h ⊢
  by_cases h1 : E.br ≥ 0
  · rw [if_pos h1] at h ⊢; exact h
  · rw [if_neg h1] at h ⊢
    obtain ⟨q, hq, h⟩ := Option.bind_eq_some_iff.mp h
    rw [leO_some (lit_Right.mono _ _ _) hq]
    show (if q ≠ 0 then _ else _) = _
    by_cases h2 : q ≠ 0
    · rw [if_pos h2] at h ⊢; exact h
    · rw [if_neg h2] at h ⊢
      by_cases h3 : E.val l ≠ 0
      · rw [if_pos h3] at h ⊢; exact h
      · rw [if_neg h3] at h ⊢
        split at h
        · rename_i h4
          obtain ⟨z, hz, h⟩ := Option.bind_eq_some_iff.mp h
          rw [if_pos h4, follow_mono _ _ _ hz]
          exact h
        · cases h
theorem new_mono {k : Nat} {n : Int} {l : List (List Int)} {r : Eng × Int} (h : Eng.new k n l = some r) : Eng.new (k + 1) n l = some r := by
  unfold Eng.new at h ⊢
  obtain ⟨q, hq, h⟩ := Option.bind_eq_some_iff.mp h
  rw [leO_some (cnf_Right.mono _ _ _) hq]
  show (if q.2 ≠ 0 then _ else _) = _
  by_cases h2 : q.2 ≠ 0
  · rw [if_pos h2] at h ⊢; exact h
  · rw [if_neg h2] at h ⊢
    obtain ⟨z, hz, h⟩ := Option.bind_eq_some_iff.mp h
    obtain ⟨y, hy, h⟩ := Option.bind_eq_some_iff.mp h
    rw [hz]
    show ((Eng.settle (k + 1) z).bind fun E2 => some (E2, (0 : Int))) = some r
    rw [settle_mono hy]
    exact h
theorem nodup_small {n : Int} (hn : n ≤ 1024) {c : List Int} (hc : ∀ x ∈ c, InN n x) (hd : c.Nodup) : c.length ≤ 2049 := by
  have := nodup_le21 (L := (List.range 2049).map fun i : Nat => (i : Int) - 1024) hd (fun x hx => by
    have h1 := hc x hx
    unfold InN at h1
    exact List.mem_map.2 ⟨(x + 1024).toNat, List.mem_range.2 (by omega), by omega⟩)
  simpa using this
theorem InN.good {n x : Int} (h : InN n x) (hn : n ≤ 1024) : I64 x ∧ Pu.isL x = true := by
  refine ⟨h.wf hn, ?_⟩
  unfold InN at h
  exact decide_eq_true (show x ≠ 0 ∧ x ≠ -9223372036854775808 by omega)
theorem Well.trOk {F : Eng} (h : Well F) : TrOk F := by
  have hf := h.fine
  have := nodup_small hf.n0.2 hf.tr hf.nd
  exact ⟨hf.nd, fun x hx => (hf.tr x hx).good hf.n0.2, by omega⟩
theorem Well.engOk {F : Eng} (h : Well F) (hs : F.st.length < 2000000) : EngOk F := by
  have hf := h.fine
  have ht := h.trOk
  have hl := ht.len
  refine ⟨by omega, by omega, fun x hx => (hf.tr x hx).wf hf.n0.2, fun x hx => ?_⟩
  obtain ⟨g1, g2⟩ := ht.good x hx
  have := varW_wf g1 g2
  rw [varW_abs g1 g2] at this
  rw [absW_abs g1 g2]; exact this
theorem long_loop (l : List (List Int)) (hs : l.length < 4611686018427387904) : ∀ (m i : Nat), m + i = l.length →
    ∃ b, Tells (fun k => sequiturref18_Long.l0 k l (i : Int)) b ∧ (b = false → ∀ c ∈ l.drop i, c.length ≤ 70)
  | 0, i, h => ⟨false, Tells.succ (fun k => by rw [sequiturref18_Long.l0]) (Tells.neg (by omega) (Tells.const _)), fun _ x hx => by
      rw [List.drop_of_length_le (by omega)] at hx; cases hx⟩
  | m + 1, i, h => by
    have hi : i < l.length := by omega
    have hrd : rd_L3 l (i : Int) = l[i] := by simp [rd_L3, hi]
    by_cases hb : ((l[i].length : Nat) : Int) > 70
    · refine ⟨true, Tells.succ (fun k => by rw [sequiturref18_Long.l0]) (Tells.pos (by omega) (Tells.pos (by omega) ?_)), fun h => by cases h⟩
      rw [hrd]
      exact Tells.pos hb (Tells.const _)
    · obtain ⟨b, hT, hh⟩ := long_loop l hs m (i + 1) (by omega)
      refine ⟨b, Tells.succ (fun k => by rw [sequiturref18_Long.l0]) (Tells.pos (by omega) (Tells.pos (by omega) ?_)), fun e x hx => ?_⟩
      · rw [hrd, w64s hi hs]
        exact Tells.neg hb hT
      · rw [List.drop_eq_getElem_cons hi] at hx
        rcases List.mem_cons.1 hx with e1 | e1
        · rw [e1]; omega
        · exact hh e x e1
theorem long18_tells (l : List (List Int)) (hs : l.length < 4611686018427387904) (m : Int) : ∃ b, Tells (fun k => sequiturref18_Long.f k l m) b ∧ (b = false → (l.length : Int) ≤ m ∧ ∀ c ∈ l, c.length ≤ 70) := by
  unfold sequiturref18_Long.f
  by_cases h : (l.length : Int) > m
  · exact ⟨true, Tells.pos h (Tells.const _), fun h => by cases h⟩
  · obtain ⟨b, hT, hh⟩ := long_loop l hs l.length 0 rfl
    exact ⟨b, Tells.neg h hT, fun e => ⟨by omega, by simpa using hh e⟩⟩
theorem long21_tells (n : Int) (l : List (List Int)) (hs : l.length < 4611686018427387904) (ps : List Int) : ∃ b, Tells (fun k => sequiturlaw21_long.f k n l ps) b ∧ (b = false → l.length ≤ 20 ∧ (∀ c ∈ l, c.length ≤ 70) ∧ ps.length ≤ 20 ∧ n ≤ 60) := by
  unfold sequiturlaw21_long.f
  obtain ⟨b, hT, hh⟩ := long18_tells l hs 20
  cases b with
  | true => exact ⟨true, Tells.bind hT (Tells.pos rfl (Tells.const _)), fun h => by cases h⟩
  | false =>
    obtain ⟨h1, h2⟩ := hh rfl
    by_cases h3 : (ps.length : Int) > 20
    · exact ⟨true, Tells.bind hT (Tells.neg (by decide) (Tells.pos h3 (Tells.const _))), fun h => by cases h⟩
    · refine ⟨decide (n > 60), Tells.bind hT (Tells.neg (by decide) (Tells.neg h3 (Tells.const _))), fun h => ?_⟩
      have := of_decide_eq_false h
      exact ⟨by omega, h2, by omega, by omega⟩
theorem clsOk {l : List (List Int)} (h : Rows64 l) (hs : ∀ c ∈ l, c.length ≤ 70) : ClsOk l := fun c hc => ⟨(h.2 c hc).2, by have := hs c hc; omega⟩
def a21L : List (List Int) := [[-1, 2], [-1, 3], [-2, -3]]
theorem a21_c1 : lit_Clean.f [-1, 2] = some ([-1, 2], true) := by
  rw [lit_Clean_eq [-1, 2] (by unfold I64; decide) (by decide)]
  decide +kernel
theorem a21_c2 : lit_Clean.f [-1, 3] = some ([-1, 3], true) := by
  rw [lit_Clean_eq [-1, 3] (by unfold I64; decide) (by decide)]
  decide +kernel
theorem a21_c3 : lit_Clean.f [-2, -3] = some ([-2, -3], true) := by
  rw [lit_Clean_eq [-2, -3] (by unfold I64; decide) (by decide)]
  decide +kernel
def a21E : Eng := (((Eng.fresh 3).laid [-1, 2]).laid [-1, 3]).laid [-2, -3]
theorem a21_lays : Eng.lays a21L (Eng.fresh 3) = some a21E := by
  unfold a21L Eng.lays
  rw [a21_c1]
  show (if (Eng.fresh 3).ws + 2 < 4398046511104 ∧ (Eng.fresh 3).cls.length + 1 < 5864062014805 then Eng.lays [[-1, 3], [-2, -3]] ((Eng.fresh 3).laid [-1, 2]) else none) = some a21E
  rw [if_pos (by decide)]
  unfold Eng.lays
  rw [a21_c2]
  show (if ((Eng.fresh 3).laid [-1, 2]).ws + 2 < 4398046511104 ∧ ((Eng.fresh 3).laid [-1, 2]).cls.length + 1 < 5864062014805 then Eng.lays [[-2, -3]] (((Eng.fresh 3).laid [-1, 2]).laid [-1, 3]) else none) = some a21E
  rw [if_pos (by decide)]
  unfold Eng.lays
  rw [a21_c3]
  show (if (((Eng.fresh 3).laid [-1, 2]).laid [-1, 3]).ws + 2 < 4398046511104 ∧ (((Eng.fresh 3).laid [-1, 2]).laid [-1, 3]).cls.length + 1 < 5864062014805 then Eng.lays [] a21E else none) = some a21E
  rw [if_pos (by decide)]
  rfl
def a21chk : Bool := match Eng.settle 40 a21E with
  | none => false
  | some E2 => match Eng.push 40 E2 1 with
    | some (E3, true) => match sequiturref21_First.f 40 E3.tr E3.whys E3.levs E3.br (E3.st.length : Int) 3 a21L with
      | some (cl, tv, fr, g) => (cl == [-1]) && decide (tv = 0) && decide (2 ≤ fr.length) && decide (g = 0)
      | _ => false
    | _ => false
theorem a21chk_true : a21chk = true := by kernel_rfl
theorem push_from {k : Nat} {E : Eng} {l : Int} {r : Eng × Bool} (h : Eng.push k E l = some r) : ∀ j, k ≤ j → Eng.push j E l = some r := fun j hj => by
  obtain ⟨d, rfl⟩ : ∃ d, j = k + d := ⟨j - k, by omega⟩
  clear hj
  induction d with
  | zero => exact h
  | succ d ih => exact push_mono ih
theorem new_from {k : Nat} {n : Int} {l : List (List Int)} {r : Eng × Int} (h : Eng.new k n l = some r) : ∀ j, k ≤ j → Eng.new j n l = some r := fun j hj => by
  obtain ⟨d, rfl⟩ : ∃ d, j = k + d := ⟨j - k, by omega⟩
  clear hj
  induction d with
  | zero => exact h
  | succ d ih => exact new_mono ih
theorem a21_rows : Rows64 a21L := ⟨by decide, by unfold I64; decide⟩
theorem a21_err : setErr 3 a21L = 0 := by decide +kernel
theorem alive21 : ∃ K, ∀ k, K ≤ k → learn_alive.P k := by
  have h := a21chk_true
  unfold a21chk at h
  cases hs : Eng.settle 40 a21E with
  | none => rw [hs] at h; cases h
  | some E2 =>
    rw [hs] at h
    dsimp only at h
    cases hp : Eng.push 40 E2 1 with
    | none => rw [hp] at h; cases h
    | some r =>
      obtain ⟨E3, b⟩ := r
      rw [hp] at h
      cases b with
      | false => cases h
      | true =>
        dsimp only at h
        cases hf : sequiturref21_First.f 40 E3.tr E3.whys E3.levs E3.br (E3.st.length : Int) 3 a21L with
        | none => rw [hf] at h; cases h
        | some q =>
          obtain ⟨cl, tv, fr, g⟩ := q
          rw [hf] at h
          simp only [Bool.and_eq_true, beq_iff_eq, decide_eq_true_eq] at h
          obtain ⟨⟨⟨h1, h2⟩, h3⟩, h4⟩ := h
          subst h1 h2 h4
          have hcr : cnf_Right.f 40 3 a21L = some (-1, 0) ∨ cnf_Right.f 40 3 a21L = some (0, 0) := by decide +kernel
          have hnew : Eng.new 40 3 a21L = some (E2, 0) := by
            unfold Eng.new
            rcases hcr with e | e
            all_goals
              rw [e]
              show ((Eng.lays a21L (Eng.fresh 3)).bind fun E => (Eng.settle 40 E).bind fun E2 => some (E2, (0 : Int))) = some (E2, 0)
              rw [a21_lays]
              show ((Eng.settle 40 a21E).bind fun E2 => some (E2, (0 : Int))) = some (E2, 0)
              rw [hs]
              rfl
          have hw2 : Well E2 := well_new (k := 40) a21_err (fun r hr => by rcases hcr with e | e <;> rw [e] at hr <;> injection hr with hr <;> rw [← hr]) hnew
          have hn2 : InN E2.n 1 := by
            obtain ⟨E', b', ⟨K, t⟩, _, g1, g2⟩ := push_tells hw2.fine (l := 1) (by unfold I64; decide) (by
              have h2 := hw2.low
              have h3 := hw2.inc
              have hnd : E2.st.Nodup := List.Pairwise.imp (fun h => by omega) h3
              have := nodup_le21 (L := (List.range E2.tr.length).map fun i : Nat => (i : Int)) hnd (fun a ha => by
                have := h2 a ha
                exact List.mem_map.2 ⟨a.toNat, List.mem_range.2 (by omega), by omega⟩)
              rw [List.length_map, List.length_range] at this
              have := hw2.trOk.len
              omega)
            have t1 : some (E3, true) = some (E', b') := (push_from hp (K + 40) (by omega)).symm.trans (t (K + 40) (by omega))
            injection t1 with t1
            injection t1 with t1 t2
            exact (g2 t2.symm).1
          have hw3 : Well E3 := well_push hw2 hn2 hp
          obtain ⟨cl', tv', fr', g', ⟨K1, t1⟩, t2, _, _, _⟩ := first_tells hw3.trOk (clsOk a21_rows (by decide)) 3
          have t3 : Tells (fun k => sequiturref21_First.f k E3.tr E3.whys E3.levs E3.br (E3.st.length : Int) 3 a21L) (([-1] : List Int), (0 : Int), fr, (0 : Int)) := Tells.mono (fun k => sequiturref21_First.mono _ _ _ _ _ _ _ k) hf
          obtain ⟨K2, u2⟩ := t2
          obtain ⟨K3, u3⟩ := t3
          have e2 : some (([-1] : List Int), (0 : Int), fr, (0 : Int)) = some (cl', tv', fr', g') := (u3 (K2 + K3) (by omega)).symm.trans (u2 (K2 + K3) (by omega))
          injection e2 with e2
          injection e2 with e3 e2
          injection e2 with e4 e2
          injection e2 with e5 e6
          subst e3 e4 e5 e6
          obtain ⟨K4, t4⟩ := Ints_tells [-1] [-1] (by decide)
          have hst : E3.st.length < 2000000 := by
            have h2 := hw3.low
            have hnd : E3.st.Nodup := List.Pairwise.imp (fun h => by omega) hw3.inc
            have := nodup_le21 (L := (List.range E3.tr.length).map fun i : Nat => (i : Int)) hnd (fun a ha => by
              have := h2 a ha
              exact List.mem_map.2 ⟨a.toNat, List.mem_range.2 (by omega), by omega⟩)
            rw [List.length_map, List.length_range] at this
            have := hw3.trOk.len
            omega
          have hok := hw3.engOk hst
          have hl3 := hw3.trOk.len
          refine ⟨40 + K1 + K4, fun k hk => ⟨E2, E3, E3.tr.length + 1, fr, new_from hnew k (by omega), ?_, hw2.fine.lits, push_from hp k (by omega), ⟨hok.1, hok.2.1, hok.2.2.1⟩, by omega, t1 k (by omega), h3, (t4 k (by omega)).trans (by decide)⟩⟩
          intro c hc r hr y hy
          rw [lit_Clean_eq c (a21_rows.2 c hc).2 (by have := clsOk a21_rows (by decide) c hc; omega)] at hr
          injection hr with hr
          rw [← hr] at hy
          exact (a21_rows.2 c hc).2 y (cleanL_mem.1 hy).1
def CForced (C : List (List Int)) (before : List Int) (x : Int) : Prop := ∃ c ∈ C, x ∈ c ∧ ∀ y ∈ c, y ≠ x → -y ∈ before
def CChain (C : List (List Int)) (S0 ext : List Int) : Prop := ∀ (i : Nat) (x : Int), ext[i]? = some x → CForced C (S0 ++ ext.take i) x
def CQuiet (T c : List Int) : Prop := (∃ x ∈ c, x ∈ T) ∨ ∃ x y, x ∈ c ∧ y ∈ c ∧ x ≠ y ∧ (x ∉ T ∧ -x ∉ T) ∧ (y ∉ T ∧ -y ∉ T)
def CClosed (C : List (List Int)) (T : List Int) : Prop := ∀ c ∈ C, CQuiet T c
def Cons (T : List Int) : Prop := ∀ x ∈ T, -x ∉ T
section
variable {C : List (List Int)} {S0 S T ext ext' : List Int}
theorem forced_in (hcl : CClosed C T) (hc : Cons T) {x : Int} (hf : CForced C S x) (hs : ∀ y ∈ S, y ∈ T) : x ∈ T := by
  obtain ⟨c, hcC, hx, hy⟩ := hf
  rcases hcl c hcC with ⟨z, hz, hzT⟩ | ⟨u, v, hu, hv, hne, hou, hov⟩
  · by_cases e : z = x
    · rw [← e]; exact hzT
    · exact absurd (hs _ (hy z hz e)) (hc z hzT)
  · by_cases e : u = x
    · exact absurd (hs _ (hy v hv (fun q => hne (by rw [e, q])))) hov.2
    · exact absurd (hs _ (hy u hu e)) hou.2
theorem chain_in (hcl : CClosed C T) (hc : Cons T) (h0 : ∀ x ∈ S0, x ∈ T) (hch : CChain C S0 ext) : ∀ x ∈ ext, x ∈ T := by
  have main : ∀ (i : Nat), ∀ j, j ≤ i → ∀ x, ext[j]? = some x → x ∈ T := by
    intro i
    induction i with
    | zero =>
      intro j hj x hx
      have : j = 0 := by omega
      subst this
      refine forced_in hcl hc (hch 0 x hx) (fun y hy => ?_)
      rw [List.take_zero, List.append_nil] at hy
      exact h0 y hy
    | succ i ih =>
      intro j hj x hx
      refine forced_in hcl hc (hch j x hx) (fun y hy => ?_)
      rcases List.mem_append.1 hy with h | h
      · exact h0 y h
      · obtain ⟨m, hm⟩ := List.mem_iff_getElem?.1 h
        rw [List.getElem?_take] at hm
        split at hm
        · exact ih m (by omega) y hm
        · cases hm
  intro x hx
  obtain ⟨j, hj⟩ := List.mem_iff_getElem?.1 hx
  exact main j j (Nat.le_refl _) x hj
theorem no_broken (hcl : CClosed C T) (hc : Cons T) {c : List Int} (hcC : c ∈ C) (hf : ∀ y ∈ c, -y ∈ S) (hs : ∀ y ∈ S, y ∈ T) : False := by
  rcases hcl c hcC with ⟨z, hz, hzT⟩ | ⟨u, v, hu, hv, hne, hou, hov⟩
  · exact hc z hzT (hs _ (hf z hz))
  · exact hou.2 (hs _ (hf u hu))
structure Gone (C : List (List Int)) (S0 ext : List Int) (b : Bool) : Prop where
  chain : CChain C S0 ext
  cons : Cons (S0 ++ ext)
  broken : b = true → ∃ c ∈ C, ∀ y ∈ c, -y ∈ S0 ++ ext
  closed : b = false → CClosed C (S0 ++ ext)
theorem Gone.sub {S1 : List Int} {b b' : Bool} (h : Gone C S0 ext b) (k : Gone C S1 ext' b') (hs : ∀ x, x ∈ S0 ↔ x ∈ S1) (hb : b' = false) : (∀ x ∈ ext, x ∈ S1 ++ ext') ∧ b = false := by
  have h0 : ∀ x ∈ S0, x ∈ S1 ++ ext' := fun x hx => List.mem_append.2 (.inl ((hs x).1 hx))
  have hin := chain_in (k.closed hb) k.cons h0 h.chain
  refine ⟨hin, ?_⟩
  cases b with
  | false => rfl
  | true =>
    obtain ⟨c, hc, hf⟩ := h.broken rfl
    refine (no_broken (k.closed hb) k.cons hc hf (fun y hy => ?_)).elim
    rcases List.mem_append.1 hy with q | q
    · exact h0 y q
    · exact hin y q
theorem Gone.same {S1 : List Int} {b b' : Bool} (h : Gone C S0 ext b) (k : Gone C S1 ext' b') (hs : ∀ x, x ∈ S0 ↔ x ∈ S1) (hn : (S0 ++ ext).Nodup) (hn' : (S1 ++ ext').Nodup) : b = b' ∧ (b = false → ∀ x, x ∈ ext ↔ x ∈ ext') := by
  have e : b = b' := by
    cases hb : b with
    | false =>
      cases hb' : b' with
      | false => rfl
      | true =>
        have := (k.sub h (fun x => (hs x).symm) hb).2
        rw [hb'] at this; cases this
    | true =>
      cases hb' : b' with
      | true => rfl
      | false =>
        have := (h.sub k hs hb').2
        rw [hb] at this; cases this
  refine ⟨e, fun hb x => ?_⟩
  have h1 := (h.sub k hs (e ▸ hb)).1
  have h2 := (k.sub h (fun x => (hs x).symm) hb).1
  have d1 := (List.nodup_append.1 hn).2.2
  have d2 := (List.nodup_append.1 hn').2.2
  constructor
  · intro hx
    rcases List.mem_append.1 (h1 x hx) with q | q
    · exact absurd rfl (d1 x ((hs x).2 q) x hx)
    · exact q
  · intro hx
    rcases List.mem_append.1 (h2 x hx) with q | q
    · exact absurd rfl (d2 x ((hs x).1 q) x hx)
    · exact q
end
def Neat (E : Eng) : Prop := ∀ c ∈ E.cls, c.Nodup
theorem two_of_filter {P : Int → Bool} {c : List Int} (hc : c.Nodup) (h : 2 ≤ (c.filter P).length) : ∃ x y, x ∈ c ∧ y ∈ c ∧ x ≠ y ∧ P x = true ∧ P y = true := by
  match hf : c.filter P with
  | [] => rw [hf] at h; simp at h
  | [_] => rw [hf] at h; simp at h
  | x :: y :: t =>
    have hn : (c.filter P).Nodup := hc.filter P
    have hx : x ∈ c.filter P := by rw [hf]; simp
    have hy : y ∈ c.filter P := by rw [hf]; simp
    obtain ⟨x1, x2⟩ := List.mem_filter.1 hx
    obtain ⟨y1, y2⟩ := List.mem_filter.1 hy
    refine ⟨x, y, x1, y1, fun e => ?_, x2, y2⟩
    rw [hf] at hn
    exact (List.nodup_cons.1 hn).1 (by rw [e]; simp)
section
variable {E : Eng}
theorem quiet_c (h : Fine E) (hn : Neat E) {c : List Int} (hc : c ∈ E.cls) (hq : Quiet E c) : CQuiet E.tr c := by
  have hin := h.cls c hc
  rcases (quiet_iff (fun x hx => (hin x hx).1)).1 hq with ⟨x, hx, hv⟩ | h2
  · refine .inl ⟨x, hx, ?_⟩
    rw [h.val (hin x hx)] at hv
    by_cases e : x ∈ E.tr
    · exact e
    · rw [if_neg e] at hv
      split at hv <;> exact absurd hv (by decide)
  · obtain ⟨x, y, hx, hy, hne, px, py⟩ := two_of_filter (hn c hc) h2
    exact .inr ⟨x, y, hx, hy, hne, h.open_iff (hin x hx) (of_decide_eq_true px), h.open_iff (hin y hy) (of_decide_eq_true py)⟩
def LevE (E : Eng) (k : Nat) (x : Int) : Prop := ∃ i, E.tr[i]? = some x ∧ cnt E.st i = (k : Int)
structure Sim (E : Eng) (N : Int) (L Ls : List (List Int)) (Br : Bool) : Prop where
  well : Well E
  neat : Neat E
  n : N = E.n
  cls : L = E.cls
  len : Ls.length = E.st.length + 1
  low : ∀ (k : Nat) (l : List Int), Ls[k]? = some l → k < E.st.length → ∀ x, x ∈ l ↔ LevE E k x
  br : Br = decide (0 ≤ E.br)
  last : Br = false → ∀ l, Ls[E.st.length]? = some l → ∀ x, x ∈ l ↔ LevE E E.st.length x
  rin : ∀ x ∈ Ls.flatten, InN N x
  rnd : Ls.flatten.Nodup
  rcon : Cons Ls.flatten
structure Goes (L Ls Ls' : List (List Int)) (b : Bool) : Prop where
  out : ∃ ext, Ls' = Ls.dropLast ++ [Ls.getLastD [] ++ ext] ∧ Gone L Ls.flatten ext b ∧ (Ls.flatten ++ ext).Nodup
end
def Calms (E : Eng) : Prop := ∀ a ∈ E.st, ∀ c ∈ E.cls, CQuiet (E.tr.take a.toNat) c
theorem take_left {α : Type} {a b : List α} {n : Nat} (h : n ≤ a.length) : (a ++ b).take n = a.take n := List.take_append_of_le_length h
theorem push_calm {E E' : Eng} {l : Int} (h : Well E) (hn : Neat E) (hc : Calms E) (hb : E.br < 0) (hg : Grew (pushed0 E l) E') : Calms E' ∧ Neat E' := by
  have est : E'.st = E.st ++ [(E.tr.length : Int)] := hg.st
  have ecl : E'.cls = E.cls := hg.cls
  obtain ⟨more, hm⟩ := hg.tr
  have etr : E'.tr = E.tr ++ ([l] ++ more) := by rw [hm]; show (E.tr ++ [l]) ++ more = _; rw [List.append_assoc]
  refine ⟨fun a ha c hcc => ?_, fun c hcc => hn c (ecl ▸ hcc)⟩
  rw [est] at ha
  rw [ecl] at hcc
  rw [etr]
  rcases List.mem_append.1 ha with ha | ha
  · have := h.low a ha
    rw [take_left (by omega)]
    exact hc a ha c hcc
  · rw [List.mem_singleton.1 ha, Int.toNat_natCast, take_left (Nat.le_refl _), List.take_length]
    exact quiet_c h.fine hn hcc (h.still hb c hcc)
theorem pushes_calm : ∀ (ps : List Int) {E : Eng}, Well E → Neat E → Calms E → E.st.length + ps.length < 1000000 → (∀ x ∈ ps, I64 x) → ∃ F, (∃ K, ∀ k, K ≤ k → pushesP k ps E F) ∧ Well F ∧ F.n = E.n ∧ F.cls = E.cls ∧ F.ws = E.ws ∧ F.st.length ≤ E.st.length + ps.length ∧ Neat F ∧ Calms F
  | [], E, h, hn, hc, _, _ => ⟨E, ⟨0, fun _ _ => rfl⟩, h, rfl, rfl, rfl, Nat.le_refl _, hn, hc⟩
  | x :: l, E, h, hn, hc, hs, hx => by
    rw [List.length_cons] at hs
    have hxi := hx x List.mem_cons_self
    obtain ⟨E', b, ⟨K1, t1⟩, f, g1, g2⟩ := push_tells h.fine hxi (by omega)
    have key : Well E' ∧ E'.n = E.n ∧ E'.cls = E.cls ∧ E'.ws = E.ws ∧ E'.st.length ≤ E.st.length + 1 ∧ Neat E' ∧ Calms E' := by
      cases b with
      | false => rw [(g1 rfl).1]; exact ⟨h, rfl, rfl, rfl, by omega, hn, hc⟩
      | true =>
        obtain ⟨c1, c2, c3, c4, c5⟩ := g2 rfl
        have est : E'.st = E.st ++ [(E.tr.length : Int)] := c5.st
        obtain ⟨q1, q2⟩ := push_calm h hn hc c2 c5
        exact ⟨well_push h c1 (t1 K1 (Nat.le_refl _)), c5.n, c5.cls, c5.ws, by rw [est, List.length_append, List.length_singleton]; omega, q2, q1⟩
    obtain ⟨hw, e1, e2, e3, e4, e5, e6⟩ := key
    obtain ⟨F, ⟨K2, t2⟩, w, f1, f2, f3, f4, f5⟩ := pushes_calm l hw e5 e6 (by omega) (fun y hy => hx y (List.mem_cons_of_mem _ hy))
    exact ⟨F, ⟨K1 + K2, fun k hk => ⟨h.fine.lits, hxi, E', b, t1 k (by omega), t2 k (by omega)⟩⟩, w, f1.trans e1, f2.trans e2, f3.trans e3, by rw [List.length_cons]; omega, f5⟩
theorem eng_calm {n : Int} {L : List (List Int)} {ps : List Int} (hn : I64 n) (hL : Rows64 L) (hps : ∀ x ∈ ps, I64 x) (hpl : ps.length ≤ 20) (Q : Nat → Eng → Prop)
    (hQ : ∀ F, setErr n L = 0 → Well F → F.n = n → F.cls = L.map cleanL → F.ws ≤ 64 * L.length → F.st.length ≤ ps.length → Neat F → Calms F → ∃ K, ∀ k, K ≤ k → Q k F) : ∃ K, ∀ k, K ≤ k → EngFact k n L ps (Q k) := by
  obtain ⟨y, ⟨K2, t2⟩⟩ := cnf_Right_tells n L hL hn
  by_cases he : setErr n L = 0
  · obtain ⟨E0, E, ⟨K3, t3⟩, g, e1, e2, e3, e4, e5, e6, e7⟩ := new_tells hn hL he
    obtain ⟨s1, s2, s3⟩ := setErr_InN he
    have hlc : ∀ c ∈ L, ∀ r, lit_Clean.f c = some r → ∀ x ∈ r.1, (Lit.int .i64 x).wf = true := fun c hc r hr y hy => by
      rw [lit_Clean_eq c (hL.2 c hc).2 (by have := (s3 c hc).2; omega)] at hr
      injection hr with hr
      rw [← hr] at hy
      exact (hL.2 c hc).2 y (cleanL_mem.1 hy).1
    have hw : Well E := well_new (k := K2 + K3) he (fun r hr => by
      rw [show cnf_Right.f (K2 + K3) n L = some (y, setErr n L) from t2 _ (by omega)] at hr
      injection hr with hr
      rw [← hr]; exact he) (t3 _ (by omega))
    have ecls : E.cls = L.map cleanL := e7.cls.trans e5
    have est : E.st = [] := e7.st.trans e2
    have hneat : Neat E := fun c hc => by
      rw [ecls] at hc
      obtain ⟨d, _, rfl⟩ := List.mem_map.1 hc
      exact cleanL_nodup d
    obtain ⟨F, ⟨K4, t4⟩, w, f1, f2, f3, f4, f5, f6⟩ := pushes_calm ps hw hneat (fun a ha => by rw [est] at ha; cases ha) (by rw [est, List.length_nil]; omega) hps
    rw [est, List.length_nil] at f4
    obtain ⟨K5, t5⟩ := hQ F he w (f1.trans (e7.n.trans e1)) (f2.trans ecls) (by rw [f3, e7.ws]; exact e6) (by omega) f5 f6
    exact ⟨K2 + K3 + K4 + K5, fun k hk => ⟨y, setErr n L, t2 k (by omega), fun _ => ⟨E, F, t3 k (by omega), hlc, t4 k (by omega), t5 k (by omega)⟩⟩⟩
  · exact ⟨K2, fun k hk => ⟨y, setErr n L, t2 k hk, fun h => absurd h he⟩⟩
theorem back_good {E : Eng} {L : List (List Int)} (hL : ClsOk L) (hlen : E.tr.length < 1000000) {may : Int → Bool} {so : List Int → Bool} {Inv : List Int → Prop}
    (HI : ∀ (m : Int) (cl : List Int), SeenC E.tr may m cl → so cl = false → Inv cl → (lastP (plA E.tr) may cl (0, false)).2 = true ∧ (stepN E.tr L cl (lastP (plA E.tr) may cl (0, false)).1 (E.why (varW (lastP (plA E.tr) may cl (0, false)).1))).2.2 = true ∧ Inv (stepN E.tr L cl (lastP (plA E.tr) may cl (0, false)).1 (E.why (varW (lastP (plA E.tr) may cl (0, false)).1))).1) :
    ∀ (m : Nat) (cl fr : List Int), SeenC E.tr may (m : Int) cl → Inv cl → ∃ z, (∃ K, ∀ k, K ≤ k → BackP k E L (plA E.tr) may so (m + 1) cl fr (some z)) ∧ SeenC E.tr may (m : Int) z.1 ∧ so z.1 = true ∧ Inv z.1 := by
  intro m
  induction m with
  | zero =>
    intro cl fr hc hi
    have hwf : WfC cl := fun x hx => varW_wf (hc.good x hx).1 (hc.good x hx).2
    by_cases hso : so cl = true
    · exact ⟨(cl, fr), ⟨0, fun k _ => ⟨hwf, Or.inl ⟨hso, rfl⟩⟩⟩, hc, hso, hi⟩
    · obtain ⟨h1, _⟩ := HI _ cl hc (Bool.eq_false_iff.2 hso) hi
      rcases (lastP_inv (plA E.tr) may cl (0, false)).1 with h | ⟨h, hm, hp⟩
      · rw [h] at h1; cases h1
      · obtain ⟨a, ha, ham⟩ := hc.seen _ hm
        obtain ⟨n, hn, _⟩ := plT_inv ha
        have := ham hp
        omega
  | succ m ih =>
    intro cl fr hc hi
    have hwf : WfC cl := fun x hx => varW_wf (hc.good x hx).1 (hc.good x hx).2
    by_cases hso : so cl = true
    · exact ⟨(cl, fr), ⟨0, fun k _ => ⟨hwf, Or.inl ⟨hso, rfl⟩⟩⟩, hc, hso, hi⟩
    · have hso := Bool.eq_false_iff.2 hso
      obtain ⟨hfo, hs, hinv⟩ := HI _ cl hc hso hi
      obtain ⟨i1, _, i3⟩ := lastP_inv (plA E.tr) may cl (0, false)
      have hml : (lastP (plA E.tr) may cl (0, false)).1 ∈ cl ∧ may (lastP (plA E.tr) may cl (0, false)).1 = true := by
        rcases i1 with h | ⟨_, hm, hp⟩
        · rw [h] at hfo; cases hfo
        · exact ⟨hm, hp⟩
      obtain ⟨l, hl⟩ : ∃ l, (lastP (plA E.tr) may cl (0, false)).1 = l := ⟨_, rfl⟩
      rw [hl] at hml hs hinv
      have hlast : ∀ x ∈ cl, may x = true → (plA E.tr (wrap64 (-x))).getD 0 ≤ (plA E.tr (wrap64 (-l))).getD 0 := fun x hx hp => by have := (i3 x hx hp).2; rwa [hl] at this
      obtain ⟨hgl, hll⟩ := hc.good l hml.1
      have hcl := hc.length
      obtain ⟨K1, t1⟩ := stepP_of hL E hgl hll (fun x hx => (hc.good x hx).1) (by omega : cl.length < 8796093022000)
      obtain ⟨n1, n2, n3⟩ := next_seen hL (m := (m : Int)) (by rwa [Int.natCast_add] at hc) hml.1 hml.2 hlast hs
      obtain ⟨z, ⟨K2, t2⟩, z1, z2, z3⟩ := ih (stepN E.tr L cl l (E.why (varW l))).1 (fr ++ [E.why (varW l)]) n1 hinv
      refine ⟨z, ⟨K1 + K2, fun k hk => ⟨hwf, Or.inr (Or.inr ⟨hso, hfo, true, (resolveL cl (numL L (E.why (varW l))).1 l).1, ?_, Or.inr ⟨rfl, ?_⟩⟩)⟩⟩, ⟨z1.good, z1.nd, fun x hx => ?_⟩, z2, z3⟩
      · have := t1 k (by omega); rw [hl]; rwa [hs] at this
      · rw [hl, ← n3]; exact t2 k (by omega)
      · obtain ⟨a, ha, hb⟩ := z1.seen x hx
        exact ⟨a, ha, fun hp => by have := hb hp; omega⟩
section
variable {F : Eng}
theorem Fine.mark21 (h : Fine F) {x : Int} (hx : x ∈ F.tr) : F.markV ((x.natAbs : Nat) : Int) = F.ms x := by
  have hin := h.tr x hx
  have h0 := hin.1
  have hn := h.n0
  unfold InN at hin
  unfold Eng.markV
  rw [if_neg (by omega)]
  by_cases hp : 0 < x
  · rw [show ((x.natAbs : Nat) : Int) = x by omega, if_pos ((h.mks x).2 hx)]
  · rw [show ((x.natAbs : Nat) : Int) = -x by omega, if_neg (fun e => h.con x hx ((h.mks _).1 e)), show wrap64 (-(-x)) = x by unfold wrap64; omega]
theorem fal_at (hw : Well F) {x : Int} (hg : I64 x) (hl : isL x = true) {i : Nat} (ha : plA F.tr (wrap64 (-x)) = some (i : Int)) : F.tr[i]? = some (-x) ∧ F.lev x = cnt F.st i ∧ ((i : Int) ∉ F.st → Forced F.cls (F.tr.take i) (-x) (F.why (varW x))) := by
  obtain ⟨n, hn, hlt, hx⟩ := plT_inv ha
  have e : n = i := by omega
  subst e
  have hget : F.tr[n]? = some (-x) := by
    rw [wneg hg hl, List.getD_eq_getElem?_getD, List.getElem?_eq_getElem hlt] at hx
    rw [List.getElem?_eq_getElem hlt]
    exact congrArg some hx
  have hm : -x ∈ F.tr := List.mem_of_getElem? hget
  obtain ⟨why, w1, _, w3⟩ := hw.just n (-x) hget
  have hv : varW x = (((-x).natAbs : Nat) : Int) := by rw [varW_abs hg hl]; omega
  refine ⟨hget, ?_, fun h => ?_⟩
  · unfold Eng.lev Eng.level
    rw [hv, hw.fine.mark21 hm, w1]
  · unfold Eng.why
    rw [hv, hw.fine.mark21 hm, w1]
    exact w3 h
theorem cnt_lt {st : List Int} {j i : Nat} (h : (i : Int) ∈ st) (hj : j < i) : cnt st j < cnt st i := by
  unfold cnt
  have : ∀ l : List Int, (l.filter fun a => decide (a ≤ (j : Int))).length ≤ (l.filter fun a => decide (a ≤ (i : Int))).length ∧ ((i : Int) ∈ l → (l.filter fun a => decide (a ≤ (j : Int))).length < (l.filter fun a => decide (a ≤ (i : Int))).length) := by
    intro l
    induction l with
    | nil => exact ⟨Nat.le_refl _, fun h => by cases h⟩
    | cons a t ih =>
      by_cases h1 : a ≤ (j : Int)
      · rw [List.filter_cons_of_pos (by simpa using h1), List.filter_cons_of_pos (by simpa using (show a ≤ (i : Int) by omega)), List.length_cons, List.length_cons]
        refine ⟨by have := ih.1; omega, fun hm => ?_⟩
        have hm2 : (i : Int) ∈ t := (List.mem_cons.1 hm).resolve_left (fun e => by omega)
        have := ih.2 hm2
        omega
      · rw [List.filter_cons_of_neg (by simpa using h1)]
        by_cases h2 : a ≤ (i : Int)
        · rw [List.filter_cons_of_pos (by simpa using h2), List.length_cons]
          exact ⟨by have := ih.1; omega, fun _ => by have := ih.1; omega⟩
        · rw [List.filter_cons_of_neg (by simpa using h2)]
          refine ⟨ih.1, fun hm => ?_⟩
          have hm2 : (i : Int) ∈ t := (List.mem_cons.1 hm).resolve_left (fun e => by omega)
          exact ih.2 hm2
  have := (this st).2 h
  omega
theorem cnt_len (st : List Int) (i : Nat) : cnt st i ≤ (st.length : Int) := by
  unfold cnt
  have := List.length_filter_le (fun a => decide (a ≤ (i : Int))) st
  omega
theorem numL_cls {L : List (List Int)} (hcls : F.cls = L.map cleanL) {j : Int} (h0 : 0 ≤ j) (h1 : j.toNat < F.cls.length) : numL L j = (F.cls.getD j.toNat [], true) := by
  rw [hcls, List.length_map] at h1
  unfold numL
  rw [if_neg (by omega), hcls, List.getD_eq_getElem?_getD, List.getD_eq_getElem?_getD, List.getElem?_map, List.getElem?_eq_getElem h1]
  rfl
theorem lvN_filter (top : Int) : ∀ (cl : List Int) (n : Nat), lvN F top cl n = n + (cl.filter fun x => F.lev x == top).length
  | [], n => rfl
  | x :: t, n => by
    rw [lvN, lvN_filter top t]
    by_cases e : F.lev x = top
    · rw [if_pos e, List.filter_cons_of_pos (by simp [e]), List.length_cons]; omega
    · rw [if_neg e, List.filter_cons_of_neg (by simp [e])]
def Learnt (F : Eng) (L : List (List Int)) (n : Nat) (cl : List Int) : Prop := (∀ v : List Bool, v.length = n → every L v = true → holds cl v = true) ∧ (F.st ≠ [] → ∃ x ∈ cl, F.lev x = (F.st.length : Int))
theorem numL_holds {L : List (List Int)} {v : List Bool} (hv : v.length < 4611686018427387904) (he : every L v = true) {j : Int} (h : (numL L j).2 = true) : holds (numL L j).1 v = true := by
  unfold numL at h ⊢
  by_cases hj : j < 0 ∨ (L.length : Int) ≤ j
  · rw [if_pos hj] at h; cases h
  · rw [if_neg hj]
    show holds (cleanL (L.getD j.toNat [])) v = true
    rw [holds_clean hv]
    exact List.all_eq_true.1 he _ (getD_mem (by omega))
theorem mem_place {tr : List Int} (hnd : tr.Nodup) {x : Int} {i : Nat} (h : x ∈ tr.take i) : ∃ j : Nat, j < i ∧ plA tr x = some (j : Int) := by
  obtain ⟨j, hj⟩ := List.mem_iff_getElem?.1 h
  rw [List.getElem?_take] at hj
  split at hj
  · rename_i hlt
    have h2 := (List.getElem?_eq_some_iff.1 hj).1
    exact ⟨j, hlt, (plA_iff hnd).2 ⟨j, rfl, h2, by rw [List.getD_eq_getElem?_getD, hj]; rfl⟩⟩
  · cases hj
theorem turn_goes (hw : Well F) {L : List (List Int)} (hL : ClsOk L) (hcls : F.cls = L.map cleanL) {n : Nat} (hn : n < 1000000) {m : Int} {cl : List Int} (hc : SeenC F.tr (fun _ => true) m cl) (hso : soF F (F.st.length : Int) cl = false) (hi : Learnt F L n cl) :
    (lastP (plA F.tr) (fun _ => true) cl (0, false)).2 = true ∧ (stepN F.tr L cl (lastP (plA F.tr) (fun _ => true) cl (0, false)).1 (F.why (varW (lastP (plA F.tr) (fun _ => true) cl (0, false)).1))).2.2 = true ∧ Learnt F L n (stepN F.tr L cl (lastP (plA F.tr) (fun _ => true) cl (0, false)).1 (F.why (varW (lastP (plA F.tr) (fun _ => true) cl (0, false)).1))).1 := by
  have hE := hw.trOk
  have hf := hw.fine
  obtain ⟨i1, _, i3⟩ := lastP_inv (plA F.tr) (fun _ => true) cl (0, false)
  have hso2 := hso
  unfold soF at hso2
  rw [lvN_filter, Nat.zero_add] at hso2
  obtain ⟨q, hq⟩ : ∃ q, (cl.filter fun x => F.lev x == (F.st.length : Int)).length = q := ⟨_, rfl⟩
  rw [hq] at hso2
  have hne : cl ≠ [] := fun e => by
    rw [e] at hq hso2
    have hq0 : q = 0 := hq.symm
    rw [hq0] at hso2
    simp at hso2
  obtain ⟨x0, hx0⟩ := List.exists_mem_of_ne_nil cl hne
  have hfo := (i3 x0 hx0 rfl).1
  have hml : (lastP (plA F.tr) (fun _ => true) cl (0, false)).1 ∈ cl := by
    rcases i1 with h | ⟨_, hm, _⟩
    · rw [h] at hfo; cases hfo
    · exact hm
  obtain ⟨l, hl⟩ : ∃ l, (lastP (plA F.tr) (fun _ => true) cl (0, false)).1 = l := ⟨_, rfl⟩
  rw [hl] at hml ⊢
  refine ⟨hfo, ?_⟩
  obtain ⟨hgl, hll⟩ := hc.good l hml
  obtain ⟨al, hal, _⟩ := hc.seen l hml
  obtain ⟨i, rfl, hilt, _⟩ := plT_inv hal
  obtain ⟨hget, hlev, hforced⟩ := fal_at hw hgl hll hal
  have hlow : ∀ x ∈ cl, x ≠ l → ∃ j : Nat, j < i ∧ plA F.tr (wrap64 (-x)) = some (j : Int) ∧ F.lev x = cnt F.st j := fun x hx hxl => by
    obtain ⟨a, ha, _⟩ := hc.seen x hx
    obtain ⟨j, rfl, _, _⟩ := plT_inv ha
    have hle := (i3 x hx rfl).2
    rw [hl, ha, hal] at hle
    have hle : (j : Int) ≤ (i : Int) := hle
    obtain ⟨g1, g2, _⟩ := fal_at hw (hc.good x hx).1 (hc.good x hx).2 ha
    refine ⟨j, ?_, ha, g2⟩
    by_cases e : j = i
    · subst e
      rw [g1] at hget
      injection hget with e2
      exact absurd (by omega) hxl
    · omega
  have hnst : (i : Int) ∉ F.st := fun hst => by
    have hpos : 0 < (F.st.length : Int) := by have := List.length_pos_of_mem hst; omega
    have hq1 : q ≤ 1 := by
      by_cases hq2 : 2 ≤ q
      · obtain ⟨x, y, hx, hy, hxy, px, py⟩ := two_of_filter (P := fun x => F.lev x == (F.st.length : Int)) hc.nd (by omega)
        have key : ∀ z ∈ cl, (F.lev z == (F.st.length : Int)) = true → z = l := fun z hz pz => by
          by_cases e : z = l
          · exact e
          · obtain ⟨j, hj, _, hjl⟩ := hlow z hz e
            have h1 := cnt_lt hst hj
            have h2 := cnt_len F.st i
            have h3 : F.lev z = (F.st.length : Int) := by simpa using pz
            omega
        exact absurd ((key x hx px).trans (key y hy py).symm) hxy
      · omega
    have : (decide (q = 0) && (decide (0 < (F.st.length : Int)) || decide (cl.length = 0)) || decide (q = 1) && decide (0 < (F.st.length : Int))) = true := by
      rw [decide_eq_true hpos]
      rcases (show q = 0 ∨ q = 1 by omega) with e | e <;> rw [e] <;> rfl
    rw [this] at hso2
    cases hso2
  obtain ⟨f1, f2, f3, f4⟩ := hforced hnst
  obtain ⟨why, hwhy⟩ : ∃ y, F.why (varW l) = y := ⟨_, rfl⟩
  rw [hwhy] at f1 f2 f3 f4 ⊢
  have hnum := numL_cls hcls f1 f2
  obtain ⟨r, hr⟩ : ∃ r, F.cls.getD why.toNat [] = r := ⟨_, rfl⟩
  rw [hr] at f3 f4 hnum
  have hrg := numL_good hL why
  rw [hnum] at hrg
  have hneg := isL_neg hgl hll
  have hrf : ∀ x ∈ r, x ≠ -l → ∃ j : Nat, j < i ∧ plA F.tr (wrap64 (-x)) = some (j : Int) := fun x hx hxl => by
    rw [wneg (hrg.1 x hx).1 (hrg.1 x hx).2]
    exact mem_place hE.nd (f4 x hx hxl)
  have hcond : ((numL L why).2 && hasL (numL L why).1 (wrap64 (-l)) && (numL L why).1.all (okx (plA F.tr) l)) = true := by
    rw [hnum, wneg hgl hll]
    refine (Bool.and_eq_true _ _).mpr ⟨(Bool.and_eq_true _ _).mpr ⟨rfl, hasL_iff.2 ⟨hneg.1, f3⟩⟩, List.all_eq_true.2 fun x hx => ?_⟩
    unfold okx
    rw [wneg hgl hll]
    by_cases e : x = -l
    · rw [e]; simp
    · obtain ⟨j, hj, hp⟩ := hrf x hx e
      rw [wneg hgl hll] at hal
      rw [hp, hal, beq_eq_false_iff_ne.2 e]
      exact decide_eq_true (show (j : Int) < (i : Int) by omega)
  have hpar : ∀ x ∈ parents cl r l, fal F.tr x = true ∧ I64 x := fun x hx => by
    unfold parents at hx
    rcases List.mem_append.1 hx with hx | hx
    · have := (List.mem_filter.1 hx).1
      exact ⟨hc.fal x this, (hc.good x this).1⟩
    · obtain ⟨h1, h2⟩ := List.mem_filter.1 hx
      have h2 : x ≠ wrap64 (-l) := bne_iff_ne.1 h2
      rw [wneg hgl hll] at h2
      obtain ⟨j, _, hp⟩ := hrf x h1 h2
      exact ⟨by unfold fal; rw [hp]; rfl, (hrg.1 x h1).1⟩
  have hres : resolveL cl r l = (cleanL (parents cl r l), 0) := by
    unfold resolveL finR
    rw [if_pos (by rw [wneg hgl hll, hasL_iff.2 ⟨hll, hml⟩, hasL_iff.2 ⟨hneg.1, f3⟩]; rfl), if_neg (fun h => ?_)]
    have hcg := cleanL_good (fun x hx => (hpar x hx).2)
    obtain ⟨x, h1, h2⟩ := (oppL_iff hcg).1 h
    have e1 := plA_mem.1 (show (plA F.tr (wrap64 (-x))).isSome = true from (hpar x (cleanL_mem.1 h1).1).1)
    have e2 := plA_mem.1 (show (plA F.tr (wrap64 (-(-x)))).isSome = true from (hpar (-x) (cleanL_mem.1 h2).1).1)
    rw [wneg (hcg x h1).1 (hcg x h1).2] at e1
    rw [wneg (hcg _ h2).1 (hcg _ h2).2, Int.neg_neg] at e2
    exact hf.con x e2 e1
  have hst : stepN F.tr L cl l why = (cleanL (parents cl r l), why, true) := by
    unfold stepN
    rw [if_pos hcond, hnum]
    show ((resolveL cl r l).1, why, (resolveL cl r l).2 == 0) = _
    rw [hres]; rfl
  rw [hst]
  refine ⟨rfl, fun v hv he => ?_, fun hs => ?_⟩
  · have h1 := hi.1 v hv he
    have h2 := numL_holds (by omega) he (j := why) (by rw [hnum])
    rw [hnum] at h2
    have := resolve_holds (a := cl) (b := r) (v := l) (vs := v) (by omega) (fun x hx => (hc.good x hx).1) (by rw [hres]) h1 h2
    rw [hres] at this
    exact this
  · have hpos : 0 < (F.st.length : Int) := by
      have : 0 < F.st.length := by cases h : F.st with
        | nil => exact absurd h hs
        | cons _ _ => simp
      omega
    have hq2 : 2 ≤ q := by
      by_cases h : 2 ≤ q
      · exact h
      · have : (decide (q = 0) && (decide (0 < (F.st.length : Int)) || decide (cl.length = 0)) || decide (q = 1) && decide (0 < (F.st.length : Int))) = true := by
          rw [decide_eq_true hpos]
          rcases (show q = 0 ∨ q = 1 by omega) with e | e <;> rw [e] <;> rfl
        rw [this] at hso2
        cases hso2
    obtain ⟨x, y, hx, hy, hxy, px, py⟩ := two_of_filter (P := fun x => F.lev x == (F.st.length : Int)) hc.nd (by omega)
    have key : ∀ z ∈ cl, (F.lev z == (F.st.length : Int)) = true → z ≠ l → ∃ x ∈ cleanL (parents cl r l), F.lev x = (F.st.length : Int) := fun z hz pz hzl =>
      ⟨z, cleanL_mem.2 ⟨List.mem_append_left _ (List.mem_filter.2 ⟨hz, bne_iff_ne.2 hzl⟩), (hc.good z hz).2⟩, by simpa using pz⟩
    by_cases e : x = l
    · exact key y hy py (fun e2 => hxy (e.trans e2.symm))
    · exact key x hx px e
theorem learn_good (hw : Well F) (hcalm : Calms F) {L : List (List Int)} (hL : ClsOk L) (hcls : F.cls = L.map cleanL) {n : Nat} (hn : n < 1000000) (hb : 0 ≤ F.br) :
    ∃ cl fr, (∃ K, ∀ k, K ≤ k → FirstP k (F.tr.length + 1) F L cl (toF F (F.st.length : Int) cl 0) fr 0) ∧ SeenC F.tr (fun _ => true) (F.tr.length : Int) cl ∧ soF F (F.st.length : Int) cl = true ∧ Learnt F L n cl := by
  have hE := hw.trOk
  have hf := hw.fine
  obtain ⟨b1, b2⟩ := hw.brk.2 hb
  have hnum := numL_cls hcls hb b1
  obtain ⟨r, hr⟩ : ∃ r, F.cls.getD F.br.toNat [] = r := ⟨_, rfl⟩
  rw [hr] at b2 hnum
  have hrg := numL_good hL F.br
  rw [hnum] at hrg
  have hall : (numL L F.br).1.all (fal F.tr) = true := by
    rw [hnum]
    refine List.all_eq_true.2 fun x hx => ?_
    unfold fal
    rw [wneg (hrg.1 x hx).1 (hrg.1 x hx).2]
    exact plA_mem.2 (b2 x hx)
  have hseen := seen_first hL (fun _ => true) F.br hall
  have hinit : Learnt F L n (numL L F.br).1 := by
    refine ⟨fun v hv he => numL_holds (by omega) he (by rw [hnum]), fun hs => ?_⟩
    rw [hnum]
    obtain ⟨a, hlast⟩ : ∃ a, F.st.getLast? = some a := by
      cases h : F.st.getLast? with
      | none => exact absurd (List.getLast?_eq_none_iff.1 h) hs
      | some a => exact ⟨a, rfl⟩
    obtain ⟨ss, hss⟩ := List.getLast?_eq_some_iff.1 hlast
    have ham : a ∈ F.st := by rw [hss]; simp
    have halow := hw.low a ham
    have htop : ∀ b ∈ F.st, b ≤ a := fun b hbm => by
      have hinc := hw.inc
      rw [hss] at hbm hinc
      rcases List.mem_append.1 hbm with h | h
      · have := (List.pairwise_append.1 hinc).2.2 b h a (by simp); omega
      · rw [List.mem_singleton.1 h]; exact Int.le_refl _
    have hcm : r ∈ F.cls := by rw [← hr]; exact getD_mem b1
    have one : ∀ x ∈ r, -x ∉ F.tr.take a.toNat → F.lev x = (F.st.length : Int) := fun x hx hnt => by
      obtain ⟨p1, hp1⟩ := Option.isSome_iff_exists.1 (plA_mem.2 (b2 x hx))
      obtain ⟨i, rfl, hil, hie⟩ := plT_inv hp1
      have hp2 : plA F.tr (wrap64 (-x)) = some (i : Int) := by rw [wneg (hrg.1 x hx).1 (hrg.1 x hx).2]; exact hp1
      obtain ⟨g1, g2, _⟩ := fal_at hw (hrg.1 x hx).1 (hrg.1 x hx).2 hp2
      rw [g2]
      refine cnt_all (fun b hbm => ?_)
      have h1 := htop b hbm
      have h2 : ¬ i < a.toNat := fun h => hnt (List.mem_iff_getElem?.2 ⟨i, by rw [List.getElem?_take, if_pos h]; exact g1⟩)
      omega
    rcases hcalm a ham r hcm with ⟨x, hx, hxt⟩ | ⟨x, y, hx, hy, _, ⟨_, hx2⟩, _⟩
    · exact absurd (b2 x hx) (hf.con x (List.mem_of_mem_take hxt))
    · exact ⟨x, hx, one x hx hx2⟩
  obtain ⟨z, ⟨K, t⟩, z1, z2, z3⟩ := back_good hL hE.len (Inv := Learnt F L n) (fun m cl hc hso hi => turn_goes hw hL hcls hn hc hso hi) F.tr.length (numL L F.br).1 [F.br] hseen hinit
  refine ⟨z.1, z.2, ⟨K, fun k hk => Or.inr ⟨hb, _, _, numP hL F.br, Or.inr ⟨?_, some z, t k hk, Or.inr ⟨rfl, fun x hx => varW_wf (z1.good x hx).1 (z1.good x hx).2, rfl, rfl⟩⟩⟩⟩, z1, z2, z3⟩
  exact (Bool.and_eq_true _ _).mpr ⟨by rw [hnum], hall⟩
end
theorem toF_spec (F : Eng) (top : Int) : ∀ (cl : List Int) (t : Int), t ≤ toF F top cl t ∧ (∀ x ∈ cl, F.lev x < top → F.lev x ≤ toF F top cl t) ∧ ∀ B, t ≤ B → (∀ x ∈ cl, F.lev x < top → F.lev x ≤ B) → toF F top cl t ≤ B
  | [], t => ⟨Int.le_refl _, (fun x hx => by cases hx), fun B h _ => h⟩
  | x :: xs, t => by
    rw [toF]
    by_cases h1 : F.lev x < top
    · rw [if_pos h1]
      by_cases h2 : t < F.lev x
      · rw [if_pos h2]
        obtain ⟨i1, i2, i3⟩ := toF_spec F top xs (F.lev x)
        refine ⟨by omega, fun y hy hl => ?_, fun B hB hx => i3 B (hx x List.mem_cons_self h1) (fun y hy => hx y (List.mem_cons_of_mem _ hy))⟩
        rcases List.mem_cons.1 hy with e | hy
        · rw [e]; exact i1
        · exact i2 y hy hl
      · rw [if_neg h2]
        obtain ⟨i1, i2, i3⟩ := toF_spec F top xs t
        refine ⟨i1, fun y hy hl => ?_, fun B hB hx => i3 B hB (fun y hy => hx y (List.mem_cons_of_mem _ hy))⟩
        rcases List.mem_cons.1 hy with e | hy
        · rw [e]; omega
        · exact i2 y hy hl
    · rw [if_neg h1]
      obtain ⟨i1, i2, i3⟩ := toF_spec F top xs t
      refine ⟨i1, fun y hy hl => ?_, fun B hB hx => i3 B hB (fun y hy => hx y (List.mem_cons_of_mem _ hy))⟩
      rcases List.mem_cons.1 hy with e | hy
      · rw [e] at hl; exact absurd hl h1
      · exact i2 y hy hl
theorem lev_le {F : Eng} (hw : Well F) {p : Int → Bool} {m : Int} {cl : List Int} (h : SeenC F.tr p m cl) {x : Int} (hx : x ∈ cl) : F.lev x ≤ (F.st.length : Int) := by
  obtain ⟨a, ha, _⟩ := h.seen x hx
  obtain ⟨i, rfl, _, _⟩ := plT_inv ha
  rw [(fal_at hw (h.good x hx).1 (h.good x hx).2 ha).2.1]
  exact cnt_len _ _
theorem so_shape {F : Eng} {cl : List Int} (hso : soF F (F.st.length : Int) cl = true) : (F.st.length = 0 → cl = []) ∧ (F.st.length ≠ 0 → lvN F (F.st.length : Int) cl 0 ≤ 1) := by
  unfold soF at hso
  refine ⟨fun h0 => ?_, fun h0 => ?_⟩
  · rw [h0] at hso
    simp at hso
    exact hso.2
  · simp only [Bool.or_eq_true, Bool.and_eq_true, decide_eq_true_eq] at hso
    omega
section
variable {E E' : Eng}
theorem grew_looks (E0 : Eng) : ∀ E n, (Fine E ∧ Grew E0 E) → E.br < 0 → n < E.cls.length → (Fine (E.look n) ∧ Grew E0 (E.look n)) := fun E n h _ hn => by
  obtain ⟨f, g⟩ := h.1.look hn
  exact ⟨f, h.2.trans g⟩
theorem follow_grew {k i : Nat} (h : Eng.follow k E i = some E') (f : Fine E) : Grew E E' := (follow_keeps (grew_looks E) k E E' i h ⟨f, Grew.refl E⟩).2
variable {N : Int} {L Ls Ls' : List (List Int)} {Br b : Bool}
theorem Sim.lev (S : Sim E N L Ls Br) (hb : Br = false) {k : Nat} {l : List Int} (hk : Ls[k]? = some l) (x : Int) : x ∈ l ↔ LevE E k x := by
  have hlt := (List.getElem?_eq_some_iff.1 hk).1
  have := S.len
  by_cases e : k < E.st.length
  · exact S.low k l hk e x
  · have e2 : k = E.st.length := by omega
    subst e2
    exact S.last hb l hk x
end
theorem topF_spec (F : Eng) (top : Int) : ∀ (cl : List Int) (t : Int), (topF F top cl t = t ∨ topF F top cl t ∈ cl ∧ F.lev (topF F top cl t) = top) ∧ ((∃ x ∈ cl, F.lev x = top) → topF F top cl t ∈ cl ∧ F.lev (topF F top cl t) = top)
  | [], t => ⟨Or.inl rfl, fun ⟨x, hx, _⟩ => by cases hx⟩
  | x :: xs, t => by
    rw [topF]
    by_cases h : F.lev x = top
    · rw [if_pos h]
      obtain ⟨i1, _⟩ := topF_spec F top xs x
      have : topF F top xs x ∈ x :: xs ∧ F.lev (topF F top xs x) = top := by
        rcases i1 with e | ⟨e1, e2⟩
        · rw [e]; exact ⟨List.mem_cons_self, h⟩
        · exact ⟨List.mem_cons_of_mem _ e1, e2⟩
      exact ⟨Or.inr this, fun _ => this⟩
    · rw [if_neg h]
      obtain ⟨i1, i2⟩ := topF_spec F top xs t
      refine ⟨i1.elim Or.inl (fun e => Or.inr ⟨List.mem_cons_of_mem _ e.1, e.2⟩), fun ⟨y, hy, hl⟩ => ?_⟩
      rcases List.mem_cons.1 hy with e | hy
      · rw [e] at hl; exact absurd hl h
      · have := i2 ⟨y, hy, hl⟩
        exact ⟨List.mem_cons_of_mem _ this.1, this.2⟩
theorem two_filter {P : Int → Bool} {c : List Int} {x y : Int} (hx : x ∈ c) (hy : y ∈ c) (hne : x ≠ y) (px : P x = true) (py : P y = true) : 2 ≤ (c.filter P).length := by
  have h1 : x ∈ c.filter P := List.mem_filter.2 ⟨hx, px⟩
  have h2 : y ∈ c.filter P := List.mem_filter.2 ⟨hy, py⟩
  match hf : c.filter P with
  | [] => rw [hf] at h1; cases h1
  | [z] =>
    rw [hf] at h1 h2
    exact absurd ((List.mem_singleton.1 h1).trans (List.mem_singleton.1 h2).symm) hne
  | _ :: _ :: _ => simp
theorem quiet_of_c {E : Eng} (h : Fine E) {c : List Int} (hc : c ∈ E.cls) (hq : CQuiet E.tr c) : Quiet E c := by
  have hin := h.cls c hc
  refine (quiet_iff (fun x hx => (hin x hx).1)).2 ?_
  rcases hq with ⟨x, hx, ht⟩ | ⟨x, y, hx, hy, hne, ⟨x1, x2⟩, ⟨y1, y2⟩⟩
  · exact Or.inl ⟨x, hx, by rw [h.val (hin x hx), if_pos ht]; decide⟩
  · exact Or.inr (two_filter hx hy hne (by rw [h.val (hin x hx), if_neg x1, if_neg x2]; rfl) (by rw [h.val (hin y hy), if_neg y1, if_neg y2]; rfl))
structure Backed (E G : Eng) (lv : Int) : Prop where
  well : Well G
  n : G.n = E.n
  cls : G.cls = E.cls
  ws : G.ws = E.ws
  st : (G.st.length : Int) = lv
  sub : ∀ y ∈ G.tr, y ∈ E.tr
  low : ∀ (i : Nat) (y : Int), E.tr[i]? = some y → cnt E.st i ≤ lv → y ∈ G.tr
  high : ∀ (i : Nat) (y : Int), E.tr[i]? = some y → lv < cnt E.st i → y ∉ G.tr
theorem pops_tells {lv : Int} (hlv : 0 ≤ lv) : ∀ (d : Nat) {E : Eng}, Well E → Neat E → Calms E → (E.st.length : Int) = lv + d → ∃ G, (∀ k, popsP (k + 1) lv d E G) ∧ Backed E G lv ∧ (0 < d → G.br < 0)
  | 0, E, h, _, _, hs => by
    refine ⟨E, fun k => ⟨by omega, rfl⟩, ⟨h, rfl, rfl, rfl, by omega, fun _ hy => hy, fun i y hy _ => List.mem_of_getElem? hy, fun i y hy hl => ?_⟩, fun h => absurd h (by omega)⟩
    have := cnt_len E.st i
    omega
  | d + 1, E, h, hn, hc, hs => by
    have hne : E.st ≠ [] := fun e => by rw [e, List.length_nil] at hs; omega
    obtain ⟨a, hlast⟩ : ∃ a, E.st.getLast? = some a := by
      cases e : E.st.getLast? with
      | none => exact absurd (List.getLast?_eq_none_iff.1 e) hne
      | some a => exact ⟨a, rfl⟩
    obtain ⟨ss, hss⟩ := List.getLast?_eq_some_iff.1 hlast
    have ham : a ∈ E.st := by rw [hss]; simp
    have halow := h.low a ham
    obtain ⟨s1, s2, s3, s4, s5, s6, s7, s8⟩ := E.dels_same (E.tr.drop a.toNat)
    have hcl : (E.popped a.toNat).cls = E.cls := s1
    have htr : (E.popped a.toNat).tr = E.tr.take a.toNat := rfl
    have hst : (E.popped a.toNat).st = ss := by show E.st.dropLast = ss; rw [hss, List.dropLast_concat]
    have hb := h.toBase.popped hss
    have hstill : Still (E.popped a.toNat) := fun c hcm => quiet_of_c hb.fine hcm (by rw [hcl] at hcm; exact hc a ham c hcm)
    have hpop : ∀ k, Eng.pop (k + 1) E = some (E.popped a.toNat, true) := fun k => by
      unfold Eng.pop
      rw [hlast]
      show (if 0 ≤ a ∧ a.toNat ≤ E.tr.length then _ else _) = _
      rw [if_pos ⟨halow.1, by omega⟩, still_settle hstill hb.fine]
      rfl
    have hw2 : Well (E.popped a.toNat) := well_pop h (hpop 0)
    have hlen : ss.length + 1 = E.st.length := by rw [hss, List.length_append, List.length_singleton]
    have hinc := h.inc
    rw [hss] at hinc
    have hssa : ∀ b ∈ ss, b < a := fun b hb => (List.pairwise_append.1 hinc).2.2 b hb a (by simp)
    have hcalm2 : Calms (E.popped a.toNat) := fun b hbm c hcm => by
      rw [hst] at hbm
      rw [hcl] at hcm
      have h1 := hssa b hbm
      have h2 := h.low b (by rw [hss]; exact List.mem_append_left _ hbm)
      rw [htr, List.take_take, Nat.min_eq_left (by omega)]
      exact hc b (by rw [hss]; exact List.mem_append_left _ hbm) c hcm
    have hneat2 : Neat (E.popped a.toNat) := fun c hcm => hn c (hcl ▸ hcm)
    obtain ⟨G, t, bk, hbr⟩ := pops_tells hlv d hw2 hneat2 hcalm2 (by rw [hst]; omega)
    have cnt_lo : ∀ i : Nat, i < a.toNat → cnt ss i = cnt E.st i := fun i hi => by
      unfold cnt
      rw [hss, List.filter_append, List.filter_cons_of_neg (by simp; omega), List.filter_nil, List.append_nil]
    have cnt_hi : ∀ i : Nat, a.toNat ≤ i → cnt E.st i = (E.st.length : Int) := fun i hi => cnt_all (fun b hbm => by
      rw [hss] at hbm
      rcases List.mem_append.1 hbm with h1 | h1
      · have := hssa b h1; omega
      · rw [List.mem_singleton.1 h1]; omega)
    refine ⟨G, fun k => Or.inr ⟨by omega, h.fine.lits, fun x hx => (h.fine.tr x hx).wf h.fine.n0.2, E.popped a.toNat, hpop k, t k⟩, ⟨bk.well, bk.n.trans s4, bk.cls.trans hcl, bk.ws.trans s6, bk.st, fun y hy => List.mem_of_mem_take (bk.sub y hy), fun i y hy hl => ?_, fun i y hy hl hm => ?_⟩, fun _ => ?_⟩
    · have hia : i < a.toNat := by
        by_cases h1 : i < a.toNat
        · exact h1
        · rw [cnt_hi i (by omega)] at hl; omega
      exact bk.low i y (by rw [htr, List.getElem?_take, if_pos hia]; exact hy) (by rw [hst, cnt_lo i hia]; exact hl)
    · by_cases hia : i < a.toNat
      · exact bk.high i y (by rw [htr, List.getElem?_take, if_pos hia]; exact hy) (by rw [hst, cnt_lo i hia]; exact hl) hm
      · have h1 := bk.sub y hm
        rw [htr] at h1
        obtain ⟨j, hj, hp⟩ := mem_place h.fine.nd h1
        obtain ⟨q, hq1, hq2, hq3⟩ := plT_inv hp
        have h2 : E.tr[q]? = some y := by
          rw [List.getD_eq_getElem?_getD, List.getElem?_eq_getElem hq2] at hq3
          rw [List.getElem?_eq_getElem hq2]; exact congrArg some hq3
        have h3 := (List.getElem?_inj hq2 h.fine.nd).1 (h2.trans hy.symm)
        omega
    · by_cases hd : 0 < d
      · exact hbr hd
      · have hd0 : d = 0 := by omega
        subst hd0
        have hg : G = E.popped a.toNat := (t 0).2
        rw [hg]
        show (-1 : Int) < 0
        decide
theorem scan_unit {G : Eng} {c : List Int} {t : Int} (h0 : ∀ x ∈ c, x ≠ 0) (hd : c.Nodup) (ht : t ∈ c) (hv : G.val t = 0) (hf : ∀ x ∈ c, x ≠ t → G.val x = -1) : scanU G c 0 = some t := by
  cases hs : scanU G c 0 with
  | none =>
    rcases (scan_none c 0 h0).1 hs with ⟨x, hx, hp⟩ | h2
    · by_cases e : x = t
      · rw [e, hv] at hp; exact absurd hp (by decide)
      · rw [hf x hx e] at hp; exact absurd hp (by decide)
    · rw [if_pos rfl, Nat.add_zero] at h2
      obtain ⟨x, y, hx, hy, hne, px, py⟩ := two_of_filter hd h2
      have key : ∀ z ∈ c, decide (G.val z = 0) = true → z = t := fun z hz pz => by
        by_cases e : z = t
        · exact e
        · have h1 := hf z hz e
          have h3 := of_decide_eq_true pz
          rw [h1] at h3; exact absurd h3 (by decide)
      exact absurd ((key x hx px).trans (key y hy py).symm) hne
  | some o =>
    obtain ⟨_, i2, _⟩ := scan_some c 0 o h0 hs
    rcases i2 t ht with e | e
    · rw [hv] at e; exact absurd e (by decide)
    · rw [e]
theorem add_unit {G : Eng} (hw : Well G) (hbr : G.br < 0) {cl : List Int} {t : Int} (hin : ∀ x ∈ cl, InN G.n x) (hlen : cl.length ≤ 64) (hws : G.ws + 64 < 4398046511104) (hcn : G.cls.length < 4096) (ht : t ∈ cl) (hv : G.val t = 0) (hf : ∀ x ∈ cl, x ≠ t → G.val x = -1) :
    ∃ H, Tells (fun k => Eng.add k G cl) (H, 0) ∧ (0 ≤ H.br ∨ H.br < 0 ∧ H.val t = 1) := by
  have hf0 := hw.fine
  have hn2 := hf0.n0.2
  have hI : ∀ x ∈ cl, I64 x := fun x hx => (hin x hx).wf hn2
  obtain ⟨H, f, ⟨K, tt⟩, fH, g1, g2⟩ := add_tells hf0 hI (by omega) hws
  obtain ⟨K2, t2⟩ := lit_Right_tells cl G.n hI (I64n hf0) (by omega)
  have herr : clauseErr cl G.n = 0 := by
    unfold clauseErr
    rw [if_neg (by omega), if_neg (fun h => ?_)]
    obtain ⟨x, hx, hb⟩ := List.any_eq_true.1 h
    have h1 := hin x hx
    unfold InN at h1
    have h2 := of_decide_eq_true hb
    omega
  have hadd : Eng.add (K + K2) G cl = some (H, f) := tt _ (by omega)
  have hf00 : f = 0 := by
    have h1 := hadd
    unfold Eng.add at h1
    rw [show lit_Right.f (K + K2) cl G.n = some (clauseErr cl G.n) from t2 _ (by omega), herr] at h1
    have h1 : (if (0 : Int) ≠ 0 then some (G, (0 : Int)) else if G.cls.length ≥ 4096 then some (G, 2) else (lit_Clean.f cl).bind fun r => if G.ws + r.1.length < 4398046511104 ∧ G.tr.length < 4398046511104 then (if G.br < 0 then (Eng.follow (K + K2) ((G.laid r.1).look G.cls.length) G.tr.length).bind fun E' => some (E', 0) else some (G.laid r.1, 0)) else none) = some (H, f) := h1
    rw [if_neg (by decide), if_neg (by omega), lit_Clean_eq cl hI (by omega)] at h1
    have h1 : (if G.ws + (cleanL cl).length < 4398046511104 ∧ G.tr.length < 4398046511104 then (if G.br < 0 then (Eng.follow (K + K2) ((G.laid (cleanL cl)).look G.cls.length) G.tr.length).bind fun E' => some (E', 0) else some (G.laid (cleanL cl), 0)) else none) = some (H, f) := h1
    by_cases hcnd : G.ws + (cleanL cl).length < 4398046511104 ∧ G.tr.length < 4398046511104
    · rw [if_pos hcnd, if_pos hbr] at h1
      obtain ⟨E', _, h2⟩ := Option.bind_eq_some_iff.mp h1
      injection h2 with h2
      injection h2 with _ h2
      exact h2.symm
    · rw [if_neg hcnd] at h1; cases h1
  subst hf00
  obtain ⟨a1, _⟩ := add_inv hI (by omega) hadd
  have a1 := a1 hbr
  have hbl := hw.toBase.laid (cleanL_InN hin)
  obtain ⟨l1, l2, l3, l4, l5, l6, l7⟩ := G.laid_same (cleanL cl)
  have hlt : G.cls.length < (G.laid (cleanL cl)).cls.length := by rw [l3, List.length_append, List.length_singleton]; omega
  have hgd : (G.laid (cleanL cl)).cls.getD G.cls.length [] = cleanL cl := by rw [l3, List.getD_eq_getElem?_getD, List.getElem?_append_right (Nat.le_refl _), Nat.sub_self]; rfl
  have hval : ∀ x, (G.laid (cleanL cl)).val x = G.val x := fun x => by unfold Eng.val; rw [l6]
  have hmem : ∀ x, x ∈ cleanL cl → x ∈ cl := fun x hx => (cleanL_mem.1 hx).1
  have hscan : scanU (G.laid (cleanL cl)) (cleanL cl) 0 = some t := scan_unit (fun x hx => (hin x (hmem x hx)).1) (cleanL_nodup cl) (cleanL_mem.2 ⟨ht, (hin t ht).isL hn2⟩) (by rw [hval]; exact hv) (fun x hx hne => by rw [hval]; exact hf x (hmem x hx) hne)
  have hlook : (G.laid (cleanL cl)).look G.cls.length = (G.laid (cleanL cl)).put t (G.cls.length : Int) := by
    unfold Eng.look
    rw [hgd, hscan]
    show (if t = 0 then _ else _) = _
    rw [if_neg (hin t ht).1]
  have hlf := (hbl.fine.look hlt).1
  rw [hlook] at a1 hlf
  have hgr := follow_grew a1 hlf
  obtain ⟨more, hm⟩ := hgr.tr
  have htH : t ∈ H.tr := by
    rw [hm]
    refine List.mem_append_left _ ?_
    show t ∈ (G.laid (cleanL cl)).tr ++ [t]
    simp
  have hHn : H.n = G.n := hgr.n.trans l5
  refine ⟨H, ⟨K, tt⟩, ?_⟩
  by_cases hb : 0 ≤ H.br
  · exact Or.inl hb
  · refine Or.inr ⟨by omega, ?_⟩
    rw [fH.val (by rw [hHn]; exact hin t ht), if_pos htH]
theorem unit_q {F : Eng} (hw : Well F) (hneat : Neat F) (hcalm : Calms F) {L : List (List Int)} (hL : ClsOk L) (hcls : F.cls = L.map cleanL) (hLl : L.length ≤ 20) (hws : F.ws ≤ 64 * L.length) {n : Int} (hn : F.n = n) (hn8 : n ≤ 8) (hst : F.st.length < 2000000) : ∃ K, ∀ k, K ≤ k → UnitQ k n L F := by
  have hok := hw.engOk hst
  by_cases hb : F.br < 0
  · exact ⟨0, fun k _ => ⟨hok, Or.inl hb⟩⟩
  by_cases h0 : F.st.length = 0
  · exact ⟨0, fun k _ => ⟨hok, Or.inr (Or.inl ⟨by omega, h0⟩)⟩⟩
  have hE := hw.trOk
  have hEl := hE.len
  have hf := hw.fine
  have hn0 := hf.n0
  obtain ⟨cl, fr, ⟨K1, t1⟩, hseen, hso, hl1, hl2⟩ := learn_good hw hcalm hL hcls (n := n.toNat) (by rw [hn] at hn0; omega) (by omega)
  have hcl := hseen.length
  have hne : F.st ≠ [] := fun e => h0 (by rw [e]; rfl)
  obtain ⟨t, ht⟩ : ∃ t, topF F (F.st.length : Int) cl 0 = t := ⟨_, rfl⟩
  obtain ⟨htm, htl⟩ := (topF_spec F (F.st.length : Int) cl 0).2 (hl2 hne)
  rw [ht] at htm htl
  obtain ⟨tv, htv⟩ : ∃ tv, toF F (F.st.length : Int) cl 0 = tv := ⟨_, rfl⟩
  obtain ⟨s1, s2, s3⟩ := toF_spec F (F.st.length : Int) cl 0
  have hlt : tv ≤ (F.st.length : Int) - 1 := by rw [← htv]; exact s3 _ (by omega) (fun x _ h => by omega)
  rw [htv] at s1 s2 t1
  have hone := (so_shape hso).2 h0
  rw [lvN_filter] at hone
  have hothers : ∀ x ∈ cl, x ≠ t → F.lev x ≤ tv := fun x hx hxt => by
    have h1 := lev_le hw hseen hx
    by_cases h2 : F.lev x < (F.st.length : Int)
    · exact s2 x hx h2
    · have := two_filter (P := fun x => F.lev x == (F.st.length : Int)) hx htm hxt (by simp; omega) (by simp [htl])
      omega
  have hIn : ∀ x ∈ cl, InN F.n x := fun x hx => by
    have h1 := plA_mem.1 (show (plA F.tr (wrap64 (-x))).isSome = true from hseen.fal x hx)
    rw [wneg (hseen.good x hx).1 (hseen.good x hx).2] at h1
    have := (hf.tr _ h1).neg
    rwa [Int.neg_neg] at this
  have hneg : ∀ x ∈ cl, -x ∈ F.tr := fun x hx => by
    have h1 := plA_mem.1 (show (plA F.tr (wrap64 (-x))).isSome = true from hseen.fal x hx)
    rwa [wneg (hseen.good x hx).1 (hseen.good x hx).2] at h1
  obtain ⟨d, hd⟩ : ∃ d : Nat, (F.st.length : Int) = tv + d := ⟨((F.st.length : Int) - tv).toNat, by omega⟩
  obtain ⟨G, tG, bk, hbr⟩ := pops_tells s1 d hw hneat hcalm hd
  have hGf := bk.well.fine
  have hGn : ∀ x ∈ cl, InN G.n x := fun x hx => by rw [bk.n]; exact hIn x hx
  have place : ∀ x ∈ cl, ∃ i : Nat, F.tr[i]? = some (-x) ∧ F.lev x = cnt F.st i := fun x hx => by
    obtain ⟨a, ha, _⟩ := hseen.seen x hx
    obtain ⟨i, rfl, _, _⟩ := plT_inv ha
    obtain ⟨g1, g2, _⟩ := fal_at hw (hseen.good x hx).1 (hseen.good x hx).2 ha
    exact ⟨i, g1, g2⟩
  have hnotpos : ∀ x ∈ cl, x ∉ G.tr := fun x hx hm => hf.con x (bk.sub x hm) (hneg x hx)
  have hvt : G.val t = 0 := by
    obtain ⟨i, g1, g2⟩ := place t htm
    rw [hGf.val (hGn t htm), if_neg (hnotpos t htm), if_neg (bk.high i (-t) g1 (by omega))]
  have hvf : ∀ x ∈ cl, x ≠ t → G.val x = -1 := fun x hx hxt => by
    obtain ⟨i, g1, g2⟩ := place x hx
    have := hothers x hx hxt
    rw [hGf.val (hGn x hx), if_neg (hnotpos x hx), if_pos (bk.low i (-x) g1 (by omega))]
  have hshort : cl.length ≤ 64 := by
    have := nodup_le21 (L := (List.range 17).map fun i : Nat => (i : Int) - 8) hf.nd (fun x hx => by
      have h1 := hf.tr x hx
      unfold InN at h1
      exact List.mem_map.2 ⟨(x + 8).toNat, List.mem_range.2 (by omega), by omega⟩)
    rw [List.length_map, List.length_range] at this
    omega
  obtain ⟨H, ⟨K2, t2⟩, hend⟩ := add_unit bk.well (hbr (by omega)) hGn hshort (by rw [bk.ws]; omega) (by rw [bk.cls, hcls, List.length_map]; omega) htm hvt hvf
  refine ⟨K1 + K2 + 1, fun k hk => ⟨hok, Or.inr (Or.inr ⟨by omega, h0, F.tr.length + 1, cl, tv, fr, by omega, t1 k (by omega), fun x hx => ⟨(hseen.good x hx).1, varW_wf (hseen.good x hx).1 (hseen.good x hx).2⟩, fun r hr x hx => ?_, ?_, d, G, H, ?_, hGf.lits, ?_, t2 k (by omega), ?_⟩)⟩⟩
  · rw [lit_Clean_eq cl (fun x hx => (hseen.good x hx).1) (by omega)] at hr
    injection hr with hr
    rw [← hr] at hx
    exact (hseen.good x (cleanL_mem.1 hx).1).1
  · rw [ht]; exact (hseen.good t htm).1
  · obtain ⟨j, rfl⟩ : ∃ j, k = j + 1 := ⟨k - 1, by omega⟩
    exact tG j
  · rw [ht]; exact hvt
  · rw [ht]; exact hend
end Go.Proofs.Ytkmlekfmccghjaa.Pu
namespace Go.Proofs.Ytkmlekfmccghjaa.Pure
open Go.RowKit Go.Proofs.Ytkmlekfmccghjaa.Pu Go.Proofs.Ytkmlekfmccghjaa.P
theorem LearnUnit (n : Int) (l : List (List Int)) (ps : List Int) (hn : (Lit.int .i64 n).wf = true) (hl : Open.Row 24 (Open.Row 8 fun n => (Lit.int .i64 n).wf = true) l) (hp : Open.Row 8 (fun n => (Lit.int .i64 n).wf = true) ps) : ∃ k, sequiturlaw21_LearnUnit.Fact k n l ps := by
  have hl' := rows64 hl
  obtain ⟨K0, t0⟩ := alive21
  obtain ⟨lg, ⟨K1, t1⟩, g1⟩ := long21_tells n l hl'.1 ps
  cases lg with
  | true => exact ⟨K0 + K1, t0 _ (by omega), true, t1 _ (by omega), fun h => by cases h⟩
  | false =>
    obtain ⟨a1, a2, a3, a4⟩ := g1 rfl
    by_cases h8 : n ≤ 8
    · obtain ⟨K3, t3⟩ := eng_calm hn hl' hp.2 a3 (fun k F => UnitQ k n l F) (fun F _ hw hFn hcls hws hst hneat hcalm => unit_q hw hneat hcalm (clsOk hl' a2) hcls a1 hws hFn h8 (by omega))
      exact ⟨K0 + K1 + K3, t0 _ (by omega), false, t1 _ (by omega), fun _ _ => t3 _ (by omega)⟩
    · exact ⟨K0 + K1, t0 _ (by omega), false, t1 _ (by omega), fun _ h => absurd h h8⟩
end Go.Proofs.Ytkmlekfmccghjaa.Pure
