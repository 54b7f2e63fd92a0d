import Derived.SizedLaws
import Derived.Deep.Slices
import Derived.WideShapes
import Derived.ChangeShapes
import Derived.ChangeMaps5
import Derived.Lib.SmallJoins
import Derived.ChangeSlices
import Derived.Laws.BitsLemmas
import Derived.Test.YtppkeonhbkahmaaKCoreTrims1
import Derived.Test.YtppkeonhbkahmaaKCoreTrims3
import Derived.Test.YtppkeonhbkahmaaKCoreTrims9
import Derived.Test.YtppkeonhbkahmaaKCoreTrims10
import Derived.Test.YtppkeonhbkahmaaKCoreTrims6
import Derived.Test.YtppkeonhbkahmaaKCoreTrims2
import Derived.Test.YtppkeonhbkahmaaKCoreTrims5
import Derived.Test.YtppkeonhbkahmaaKCoreTrims11
namespace Go.Proofs.Ytppkeonhbkahmaa.Pu
open Go.RowKit Go.Proofs.YtppkeonhbkahmaaW.PrintWords Go.Proofs.YtppkeonhbkahmaaW.PrintLast Go.Proofs.YtppkeonhbkahmaaW.PrintMore
def Tells {α : Type} (g : Nat → Option α) (v : α) : Prop := ∃ k0, ∀ k, k0 ≤ k → g k = some v
theorem Tells.ex {α : Type} {g : Nat → Option α} {v : α} (h : Tells g v) : ∃ k, g k = some v := by
  obtain ⟨k0, h⟩ := h; exact ⟨k0, h k0 (Nat.le_refl _)⟩
theorem Tells.const {α : Type} (v : α) : Tells (fun _ => some v) v := ⟨0, fun _ _ => rfl⟩
theorem Tells.of_eq {α : Type} {g : Nat → Option α} {v : α} (h : ∀ k, g k = some v) : Tells g v := ⟨0, fun k _ => h k⟩
theorem Tells.congr {α : Type} {g h : Nat → Option α} {v : α} (e : ∀ k, g k = h k) (H : Tells h v) : Tells g v := by
  obtain ⟨k0, H⟩ := H; exact ⟨k0, fun k hk => (e k).trans (H k hk)⟩
theorem Tells.bind {α β : Type} {g : Nat → Option α} {v : α} {h : Nat → α → Option β} {u : β} (H : Tells g v) (K : Tells (fun k => h k v) u) :
    Tells (fun k => (g k).bind (h k)) u := by
  obtain ⟨k0, H⟩ := H; obtain ⟨k1, K⟩ := K
  refine ⟨k0 + k1, fun k hk => ?_⟩
  show (g k).bind (h k) = some u
  rw [H k (by omega)]; exact K k (by omega)
theorem Tells.succ {α : Type} {g h : Nat → Option α} {v : α} (e : ∀ k, g (k + 1) = h k) (H : Tells h v) : Tells g v := by
  obtain ⟨k0, H⟩ := H
  refine ⟨k0 + 1, fun k hk => ?_⟩
  obtain ⟨j, rfl⟩ : ∃ j, k = j + 1 := ⟨k - 1, by omega⟩
  exact (e j).trans (H j (by omega))
theorem Tells.mono {α : Type} {g : Nat → Option α} (hm : ∀ k, LeO (g k) (g (k + 1))) {k : Nat} {v : α} (h : g k = some v) : Tells g v :=
  ⟨k, fun _ hk => at_rounds hm hk h⟩
theorem Tells.pos {α : Type} {c : Prop} [Decidable c] {g h : Nat → Option α} {v : α} (hc : c) (H : Tells g v) : Tells (fun k => if c then g k else h k) v := by
  obtain ⟨k0, H⟩ := H; exact ⟨k0, fun k hk => (if_pos hc).trans (H k hk)⟩
theorem Tells.neg {α : Type} {c : Prop} [Decidable c] {g h : Nat → Option α} {v : α} (hc : ¬ c) (H : Tells h v) : Tells (fun k => if c then g k else h k) v := by
  obtain ⟨k0, H⟩ := H; exact ⟨k0, fun k hk => (if_neg hc).trans (H k hk)⟩
theorem Tells.ite {α : Type} {c : Prop} [Decidable c] {g h : Nat → Option α} {u v : α} (H : c → Tells g u) (K : ¬ c → Tells h v) : Tells (fun k => if c then g k else h k) (if c then u else v) := by
  by_cases hc : c
  · rw [if_pos hc]; exact Tells.pos hc (H hc)
  · rw [if_neg hc]; exact Tells.neg hc (K hc)
theorem w64 {n : Int} (h0 : -9223372036854775808 ≤ n) (h1 : n < 9223372036854775808) : wrap64 n = n := by unfold wrap64; omega
theorem w64s {i n : Nat} (h : i < n) (hn : n < 4611686018427387904) : wrap64 ((i : Int) + 1) = ((i + 1 : Nat) : Int) := by unfold wrap64; omega
theorem wf64 {n : Int} (h : (Lit.int .i64 n).wf = true) : -9223372036854775808 ≤ n ∧ n ≤ 9223372036854775807 := by
  simp only [Lit.wf, Bool.and_eq_true, decide_eq_true_eq] at h
  have a : IntKind.i64.min = -9223372036854775808 := by decide
  have b : IntKind.i64.max = 9223372036854775807 := by decide
  omega
theorem rdOf_nat {α : Type} (d : α) (xs : List α) (i : Nat) : rdOf d xs (i : Int) = xs.getD i d := by simp [rdOf]
end Go.Proofs.Ytppkeonhbkahmaa.Pu
namespace Go.Proofs.Ytppkeonhbkahmaa.Pu
open Go.RowKit Go.Proofs.Ytppkeonhbkahmaa.P Go.Proofs.YtppkeonhbkahmaaW.PrintWords Go.Proofs.YtppkeonhbkahmaaW.PrintLast
def Down (n : Nat) (fs : List (List Int)) : Prop := ∀ (i : Nat) (f : List Int), fs[i]? = some f → ∀ x ∈ f, 0 ≤ x ∧ x < ((n + i : Nat) : Int)
def Shut (n : Nat) (fs : List (List Int)) (T : Int → Prop) : Prop := ∀ (i : Nat) (f : List Int), fs[i]? = some f → T ((n + i : Nat) : Int) → ∀ x ∈ f, T x
structure Least (n : Nat) (fs : List (List Int)) (root : Int) (S : Int → Prop) : Prop where
  has : S root
  shut : Shut n fs S
  least : ∀ T : Int → Prop, T root → Shut n fs T → ∀ y, S y → T y
theorem Least.eq {n : Nat} {fs : List (List Int)} {root : Int} {S R : Int → Prop} (h : Least n fs root S) (k : Least n fs root R) (y : Int) : S y ↔ R y := ⟨h.least R k.has k.shut y, k.least S h.has h.shut y⟩
theorem i64_wf25 {v : Int} (h0 : 0 ≤ v) (h1 : v < 9223372036854775808) : (Lit.int .i64 v).wf = true := by
  simp only [Lit.wf, Bool.and_eq_true, decide_eq_true_eq]
  have a : IntKind.i64.min = -9223372036854775808 := by decide
  have b : IntKind.i64.max = 9223372036854775807 := by decide
  omega
structure MI (n : Nat) (fs : List (List Int)) (s : List Int) : Prop where
  nd : s.Nodup
  ran : ∀ v ∈ s, 0 ≤ v ∧ v < ((n + fs.length : Nat) : Int)
theorem nodup_le25 : ∀ {K L : List Int}, K.Nodup → (∀ x ∈ K, x ∈ L) → K.length ≤ L.length
  | [], _, _, _ => by simp
  | x :: K, L, hn, h => by
    obtain ⟨h1, h2⟩ := List.nodup_cons.1 hn
    have hx := h x (by simp)
    have := nodup_le25 (K := K) (L := L.erase x) h2 (fun y hy => (List.mem_erase_of_ne (by rintro rfl; exact h1 hy)).2 (h y (by simp [hy])))
    rw [List.length_erase_of_mem hx] at this
    have := List.length_pos_of_mem hx
    rw [List.length_cons]; omega
theorem MI.short {n : Nat} {fs : List (List Int)} {s : List Int} (h : MI n fs s) : s.length ≤ n + fs.length := by
  have := nodup_le25 (L := (List.range (n + fs.length)).map fun i : Nat => (i : Int)) h.nd (fun v hv => by
    have h1 := h.ran v hv
    exact List.mem_map.2 ⟨v.toNat, List.mem_range.2 (by omega), by omega⟩)
  simpa using this
structure Marks (n : Nat) (fs : List (List Int)) (s s' : List Int) (R : (Int → Prop) → Prop) : Prop where
  up : ∀ v ∈ s, v ∈ s'
  shut : ∀ (i : Nat) (f : List Int), fs[i]? = some f → ((n + i : Nat) : Int) ∈ s' → ((n + i : Nat) : Int) ∈ s ∨ ∀ x ∈ f, x ∈ s'
  least : ∀ T : Int → Prop, R T → Shut n fs T → ∀ y ∈ s', y ∈ s ∨ T y
theorem mark_tells {n : Nat} {fs : List (List Int)} (hd : Down n fs) (hs : n + fs.length < 2199023255552) : ∀ (m : Nat) (s : List Int) (v : Int), 0 ≤ v → v < ((n + fs.length : Nat) : Int) → v.toNat < m → MI n fs s →
    ∃ s', markP n fs m s v = some s' ∧ MI n fs s' ∧ Marks n fs s s' (fun T => T v) ∧ v ∈ s'
  | 0, _, _, _, _, h, _ => absurd h (Nat.not_lt_zero _)
  | m + 1, s, v, h0, h1, hm, hI => by
    unfold markP
    have hsh := hI.short
    rw [if_pos ⟨i64_wf25 (by omega) (by omega), by omega⟩]
    by_cases hv : v ∈ s
    · rw [if_pos hv]
      exact ⟨s, rfl, hI, ⟨fun _ h => h, fun i f _ h => .inl h, fun T _ _ y hy => .inl hy⟩, hv⟩
    · rw [if_neg hv]
      have hI1 : MI n fs (v :: s) := ⟨List.nodup_cons.2 ⟨hv, hI.nd⟩, fun y hy => by
        rcases List.mem_cons.1 hy with e | hy
        · rw [e]; exact ⟨h0, h1⟩
        · exact hI.ran y hy⟩
      by_cases hn : v < (n : Int)
      · rw [if_pos hn]
        refine ⟨_, rfl, hI1, ⟨fun y hy => List.mem_cons_of_mem _ hy, fun i f hf hy => ?_, fun T hT _ y hy => ?_⟩, List.mem_cons_self ..⟩
        · rcases List.mem_cons.1 hy with e | hy
          · omega
          · exact .inl hy
        · rcases List.mem_cons.1 hy with e | hy
          · rw [e]; exact .inr hT
          · exact .inl hy
      · rw [if_neg hn]
        obtain ⟨i0, hi0⟩ : ∃ i0 : Nat, v = ((n + i0 : Nat) : Int) := ⟨(v - n).toNat, by omega⟩
        have hi1 : i0 < fs.length := by omega
        rw [show (v - n).toNat = i0 by omega, if_pos hi1]
        have hget : fs[i0]? = some (fs.getD i0 []) := by rw [List.getD_eq_getElem?_getD, List.getElem?_eq_getElem hi1]; rfl
        obtain ⟨f0, hf0⟩ : ∃ f, fs.getD i0 [] = f := ⟨_, rfl⟩
        rw [hf0] at hget ⊢
        have hdown := hd i0 f0 hget
        have fold : ∀ (c : List Int) (s1 : List Int), (∀ x ∈ c, 0 ≤ x ∧ x < v) → MI n fs s1 → ∃ s', foldM (fun s x => markP n fs m s x) c s1 = some s' ∧ MI n fs s' ∧ Marks n fs s1 s' (fun T => ∀ x ∈ c, T x) ∧ ∀ x ∈ c, x ∈ s' := by
          intro c
          induction c with
          | nil => intro s1 _ hI1; exact ⟨s1, rfl, hI1, ⟨fun _ h => h, fun i f _ h => .inl h, fun T _ _ y hy => .inl hy⟩, fun x hx => by simp at hx⟩
          | cons x c ih =>
            intro s1 hc hI1
            have hx := hc x (by simp)
            obtain ⟨s2, e2, i2, k2, m2⟩ := mark_tells hd hs m s1 x hx.1 (by omega) (by omega) hI1
            obtain ⟨s3, e3, i3, k3, m3⟩ := ih s2 (fun y hy => hc y (by simp [hy])) i2
            refine ⟨s3, ?_, i3, ⟨fun y hy => k3.up y (k2.up y hy), fun i f hf hy => ?_, fun T hT hS y hy => ?_⟩, fun y hy => ?_⟩
            · show (markP n fs m s1 x).bind (foldM _ c) = some s3
              rw [e2]; exact e3
            · rcases k3.shut i f hf hy with q | q
              · rcases k2.shut i f hf q with q | q
                · exact .inl q
                · exact .inr fun z hz => k3.up z (q z hz)
              · exact .inr q
            · rcases k3.least T (fun z hz => hT z (by simp [hz])) hS y hy with q | q
              · exact k2.least T (hT x (by simp)) hS y q
              · exact .inr q
            · rcases List.mem_cons.1 hy with e | hy
              · rw [e]; exact k3.up x m2
              · exact m3 y hy
        obtain ⟨s', e, i1, k, m1⟩ := fold f0 (v :: s) (fun x hx => by have := hdown x hx; omega) hI1
        refine ⟨s', e, i1, ⟨fun y hy => k.up y (List.mem_cons_of_mem _ hy), fun i f hf hy => ?_, fun T hT hS y hy => ?_⟩, k.up v (List.mem_cons_self ..)⟩
        · rcases k.shut i f hf hy with q | q
          · rcases List.mem_cons.1 q with q | q
            · have hii : i = i0 := by omega
              subst hii
              rw [hget] at hf
              injection hf with hf
              subst hf
              exact .inr m1
            · exact .inl q
          · exact .inr q
        · rcases k.least T (hS i0 f0 hget (by rw [← hi0]; exact hT)) hS y hy with q | q
          · rcases List.mem_cons.1 q with q | q
            · rw [q]; exact .inr hT
            · exact .inl q
          · exact .inr q
theorem mark_least {n : Nat} {fs : List (List Int)} (hd : Down n fs) (hs : n + fs.length < 2199023255552) {root : Int} (h0 : 0 ≤ root) (h1 : root < ((n + fs.length : Nat) : Int)) {m : Nat} (hm : n + fs.length ≤ m) :
    ∃ s, markP n fs m [] root = some s ∧ MI n fs s ∧ Least n fs root (· ∈ s) := by
  obtain ⟨s, e, i, k, q⟩ := mark_tells hd hs m [] root h0 h1 (by omega) ⟨List.nodup_nil, fun v hv => by simp at hv⟩
  refine ⟨s, e, i, q, fun j f hf hy => (k.shut j f hf hy).resolve_left (by simp), fun T hT hS y hy => (k.least T hT hS y hy).resolve_left (by simp)⟩
def setAll (marks : List Bool) (l : List Int) : List Bool := l.foldl (fun m x => m.set x.toNat true) marks
def downTo (n : Nat) (fs : List (List Int)) : Nat → List Bool → List Bool
  | 0, m => m
  | i + 1, m => downTo n fs i (if m.getD (n + i) false = true then setAll m (fs.getD i []) else m)
theorem setAll_length : ∀ (l : List Int) (m : List Bool), (setAll m l).length = m.length
  | [], m => rfl
  | x :: l, m => by show (setAll (m.set x.toNat true) l).length = _; rw [setAll_length l, List.length_set]
theorem getD_setB (m : List Bool) (i j : Nat) : (m.set i true).getD j false = (m.getD j false || (decide (i = j) && decide (j < m.length))) := by
  rw [List.getD_eq_getElem?_getD, List.getD_eq_getElem?_getD, List.getElem?_set]
  by_cases e : i = j
  · subst e
    rw [if_pos rfl]
    by_cases h : i < m.length
    · rw [if_pos h]; simp [h]
    · rw [if_neg h, List.getElem?_eq_none (by omega)]; simp [h]
  · rw [if_neg e]; simp [e]
theorem setAll_get : ∀ (l : List Int) (m : List Bool) (j : Nat), (∀ x ∈ l, 0 ≤ x ∧ x < (m.length : Int)) → (setAll m l).getD j false = (m.getD j false || decide ((j : Int) ∈ l))
  | [], m, j, _ => by simp [setAll]
  | x :: l, m, j, h => by
    show (setAll (m.set x.toNat true) l).getD j false = _
    have hx := h x (by simp)
    rw [setAll_get l _ j (fun y hy => by rw [List.length_set]; exact h y (by simp [hy])), getD_setB]
    by_cases e : x.toNat = j
    · have e2 : (j : Int) = x := by omega
      have hj : j < m.length := by omega
      simp [e, e2, hj]
    · have e2 : ¬ (j : Int) = x := by omega
      simp [e, e2]
theorem downTo_length (n : Nat) (fs : List (List Int)) : ∀ (i : Nat) (m : List Bool), (downTo n fs i m).length = m.length
  | 0, m => rfl
  | i + 1, m => by
    show (downTo n fs i _).length = _
    rw [downTo_length n fs i]
    split
    · exact setAll_length _ _
    · rfl
theorem downTo_spec {n : Nat} {fs : List (List Int)} (hd : Down n fs) : ∀ (i : Nat) (m : List Bool), i ≤ fs.length → m.length = n + fs.length →
    (∀ j, m.getD j false = true → (downTo n fs i m).getD j false = true) ∧ (∀ j, n + i ≤ j + 1 → (downTo n fs i m).getD j false = m.getD j false ∨ i = 0) ∧
      (∀ i', i' < i → (downTo n fs i m).getD (n + i') false = true → ∀ x ∈ fs.getD i' [], (downTo n fs i m).getD x.toNat false = true) ∧
      (∀ T : Int → Prop, Shut n fs T → (∀ j : Nat, m.getD j false = true → T (j : Int)) → ∀ j : Nat, (downTo n fs i m).getD j false = true → T (j : Int))
  | 0, m, _, _ => ⟨fun _ h => h, fun _ _ => .inr rfl, fun i' h => absurd h (Nat.not_lt_zero _), fun T _ h j hj => h j hj⟩
  | i + 1, m, hi, hm => by
    have hget : fs[i]? = some (fs.getD i []) := by rw [List.getD_eq_getElem?_getD, List.getElem?_eq_getElem (by omega)]; rfl
    have hdn := hd i _ hget
    obtain ⟨m', hm'⟩ : ∃ m', (if m.getD (n + i) false = true then setAll m (fs.getD i []) else m) = m' := ⟨_, rfl⟩
    have hlen : m'.length = n + fs.length := by
      rw [← hm']; split
      · rw [setAll_length]; exact hm
      · exact hm
    have hval : ∀ j, m'.getD j false = (m.getD j false || (m.getD (n + i) false && decide ((j : Int) ∈ fs.getD i []))) := fun j => by
      rw [← hm']
      split
      · rename_i h
        rw [setAll_get _ _ _ (fun x hx => by have := hdn x hx; omega), h, Bool.true_and]
      · rename_i h
        rw [Bool.eq_false_iff.2 h, Bool.false_and, Bool.or_false]
    obtain ⟨k1, k2, k3, k4⟩ := downTo_spec hd i m' (by omega) hlen
    have hdef : downTo n fs (i + 1) m = downTo n fs i m' := by show downTo n fs i _ = _; rw [hm']
    rw [hdef]
    have hhigh : ∀ j, n + i ≤ j → m'.getD j false = m.getD j false := fun j hj => by
      rw [hval]
      have : ¬ (j : Int) ∈ fs.getD i [] := fun h => by have := hdn _ h; omega
      rw [decide_eq_false this, Bool.and_false, Bool.or_false]
    have hsame : ∀ j, n + i ≤ j → (downTo n fs i m').getD j false = m.getD j false := fun j hj => by
      rcases k2 j (by omega) with e | e
      · rw [e, hhigh j hj]
      · subst e; exact hhigh j hj
    refine ⟨fun j hj => k1 j (by rw [hval, hj, Bool.true_or]), fun j hj => .inl (hsame j (by omega)), fun i' h hy x hx => ?_, fun T hT h j hj => k4 T hT (fun j' hj' => ?_) j hj⟩
    · by_cases e : i' = i
      · subst e
        rw [hsame _ (Nat.le_refl _)] at hy
        have := hdn x hx
        refine k1 _ ?_
        rw [hval, hy, Bool.true_and, show ((x.toNat : Nat) : Int) = x by omega, decide_eq_true hx, Bool.or_true]
      · exact k3 i' (by omega) hy x hx
    · rw [hval] at hj'
      by_cases e : m.getD j' false = true
      · exact h j' e
      · rw [Bool.eq_false_iff.2 e, Bool.false_or, Bool.and_eq_true, decide_eq_true_eq] at hj'
        exact hT i _ hget (h (n + i) hj'.1) _ hj'.2
theorem downTo_least {n : Nat} {fs : List (List Int)} (hd : Down n fs) {i0 : Nat} (hi : i0 < fs.length) : Least n fs ((n + i0 : Nat) : Int) (fun y => 0 ≤ y ∧ (downTo n fs fs.length ((List.replicate (n + fs.length) false).set (n + i0) true)).getD y.toNat false = true) := by
  obtain ⟨m, hm⟩ : ∃ m, (List.replicate (n + fs.length) false).set (n + i0) true = m := ⟨_, rfl⟩
  have hlen : m.length = n + fs.length := by rw [← hm, List.length_set, List.length_replicate]
  have hval : ∀ j, m.getD j false = decide (j = n + i0) := fun j => by
    rw [← hm, getD_setB]
    have h0 : (List.replicate (n + fs.length) false).getD j false = false := by
      rw [List.getD_eq_getElem?_getD, List.getElem?_replicate]; split <;> rfl
    rw [h0, Bool.false_or, List.length_replicate]
    by_cases e : j = n + i0
    · subst e; simp; omega
    · simp [e]; omega
  rw [hm]
  obtain ⟨k1, k2, k3, k4⟩ := downTo_spec hd fs.length m (Nat.le_refl _) hlen
  refine ⟨⟨by omega, k1 _ (by rw [hval, decide_eq_true_eq]; omega)⟩, fun i f hf hy x hx => ?_, fun T hT hS y hy => ?_⟩
  · have hfi := (List.getElem?_eq_some_iff.1 hf).1
    have hx0 := hd i f hf x hx
    refine ⟨hx0.1, k3 i hfi (by have := hy.2; rwa [Int.toNat_natCast] at this) x ?_⟩
    rw [List.getD_eq_getElem?_getD, hf]; exact hx
  · have := k4 T hS (fun j hj => by
      rw [hval, decide_eq_true_eq] at hj
      rw [hj]; exact hT) y.toNat hy.2
    rwa [show ((y.toNat : Nat) : Int) = y by omega] at this
end Go.Proofs.Ytppkeonhbkahmaa.Pu
namespace Go.Proofs.Ytppkeonhbkahmaa.Pu
open Go.RowKit Go.Proofs.YtppkeonhbkahmaaW.PrintWords Go.Proofs.YtppkeonhbkahmaaW.PrintLast
def below25 (P : Nat → Bool) (v : Nat) : Nat := ((List.range v).filter P).length
theorem below25_succ (P : Nat → Bool) (v : Nat) : below25 P (v + 1) = below25 P v + (if P v = true then 1 else 0) := by
  unfold below25
  rw [List.range_succ, List.filter_append, List.length_append]
  congr 1
  by_cases h : P v = true
  · rw [List.filter_cons_of_pos h, if_pos h]; rfl
  · rw [List.filter_cons_of_neg h, if_neg h]; rfl
theorem below25_le (P : Nat → Bool) (v : Nat) : below25 P v ≤ v := by
  have := List.length_filter_le P (List.range v)
  rwa [List.length_range] at this
theorem below25_all {P : Nat → Bool} : ∀ {v : Nat}, (∀ u, u < v → P u = true) → below25 P v = v
  | 0, _ => rfl
  | v + 1, h => by rw [below25_succ, if_pos (h v (by omega)), below25_all (v := v) fun u hu => h u (by omega)]
theorem below25_congr {P Q : Nat → Bool} : ∀ {v : Nat}, (∀ u, u < v → P u = Q u) → below25 P v = below25 Q v
  | 0, _ => rfl
  | v + 1, h => by rw [below25_succ, below25_succ, h v (by omega), below25_congr (v := v) fun u hu => h u (by omega)]
theorem below25_add (P : Nat → Bool) (n : Nat) : ∀ i, below25 P (n + i) = below25 P n + below25 (fun j => P (n + j)) i
  | 0 => rfl
  | i + 1 => by rw [← Nat.add_assoc, below25_succ, below25_add P n i, below25_succ]; omega
theorem kept_at {P : Nat → Bool} : ∀ {L k i : Nat}, ((List.range L).filter P)[k]? = some i → i < L ∧ P i = true ∧ k = below25 P i
  | 0, k, i, h => by simp at h
  | L + 1, k, i, h => by
    rw [List.range_succ, List.filter_append, List.getElem?_append] at h
    split at h
    · obtain ⟨h1, h2, h3⟩ := kept_at h
      exact ⟨by omega, h2, h3⟩
    · rename_i hk
      by_cases hp : P L = true
      · rw [List.filter_cons_of_pos hp, List.filter_nil] at h
        have hk2 : k - ((List.range L).filter P).length = 0 := by
          have := (List.getElem?_eq_some_iff.1 h).1
          simp at this; exact this
        rw [hk2] at h
        simp at h
        subst h
        exact ⟨by omega, hp, by unfold below25; omega⟩
      · rw [List.filter_cons_of_neg hp] at h; simp at h
theorem kept_get {P : Nat → Bool} {L i : Nat} (hi : i < L) (hp : P i = true) : ((List.range L).filter P)[below25 P i]? = some i := by
  have hm : i ∈ (List.range L).filter P := List.mem_filter.2 ⟨List.mem_range.2 hi, hp⟩
  obtain ⟨k, hk⟩ := List.mem_iff_getElem?.1 hm
  rw [← (kept_at hk).2.2]; exact hk
def putAll (n first : Nat) : List Nat → Nat → (Nat → Nat) → Nat → Nat
  | [], _, f => f
  | i :: t, k, f => putAll n first t (k + 1) (fun v => if v = n + i then first + k else f v)
theorem putAll_other (n first : Nat) : ∀ (l : List Nat) (k : Nat) (f : Nat → Nat) (v : Nat), (∀ i ∈ l, v ≠ n + i) → putAll n first l k f v = f v
  | [], _, _, _, _ => rfl
  | i :: t, k, f, v, h => by
    show putAll n first t (k + 1) _ v = _
    rw [putAll_other n first t (k + 1) _ v (fun j hj => h j (by simp [hj])), if_neg (h i (by simp))]
theorem putAll_at (n first : Nat) : ∀ (l : List Nat) (k : Nat) (f : Nat → Nat) (j i : Nat), l.Nodup → l[j]? = some i → putAll n first l k f (n + i) = first + (k + j)
  | [], _, _, j, i, _, h => by simp at h
  | x :: t, k, f, 0, i, hn, h => by
    simp at h
    subst h
    show putAll n first t (k + 1) _ (n + x) = _
    rw [putAll_other n first t (k + 1) _ _ (fun y hy => by
      have := (List.nodup_cons.1 hn).1
      intro e
      have : x = y := by omega
      subst this; contradiction), if_pos rfl]; rfl
  | x :: t, k, f, j + 1, i, hn, h => by
    show putAll n first t (k + 1) _ (n + i) = _
    rw [putAll_at n first t (k + 1) _ j i (List.nodup_cons.1 hn).2 (by simpa using h)]
    omega
theorem range_filter_nodup (P : Nat → Bool) (L : Nat) : ((List.range L).filter P).Nodup := (List.nodup_range).filter P
theorem of_num {M : Nat → Bool} {n L v : Nat} (hv : v < n + L) (hM : M v = true) :
    putAll n ((List.range n).filter M).length ((List.range L).filter fun i => M (n + i)) 0 (putAll 0 0 ((List.range n).filter M) 0 (fun _ => 0)) v = below25 M v := by
  by_cases h : v < n
  · rw [putAll_other _ _ _ _ _ _ (fun i _ => by omega)]
    have := putAll_at 0 0 ((List.range n).filter M) 0 (fun _ => 0) _ v (range_filter_nodup M n) (kept_get h hM)
    rw [Nat.zero_add, Nat.zero_add, Nat.zero_add] at this
    exact this
  · obtain ⟨i, rfl⟩ : ∃ i, v = n + i := ⟨v - n, by omega⟩
    rw [putAll_at n _ _ 0 _ _ i (range_filter_nodup _ L) (kept_get (P := fun i => M (n + i)) (by omega) hM), below25_add, Nat.zero_add]
    rfl
end Go.Proofs.Ytppkeonhbkahmaa.Pu
namespace Go.Proofs.Ytppkeonhbkahmaa.Pu
open Go.RowKit Go.Proofs.Ytppkeonhbkahmaa.P Go.Proofs.YtppkeonhbkahmaaW.PrintWords Go.Proofs.YtppkeonhbkahmaaW.PrintLast Go.Proofs.YtppkeonhbkahmaaW.PrintMore
def I64 (n : Int) : Prop := (Lit.int .i64 n).wf = true
theorem I64.lo {n : Int} (h : I64 n) : -9223372036854775808 ≤ n := (wf64 h).1
theorem I64.hi {n : Int} (h : I64 n) : n ≤ 9223372036854775807 := (wf64 h).2
def litT (l : Int) (v : List Bool) : Bool := decide (l ≠ 0) && decide (l.natAbs ≤ v.length) && (v.getD (l.natAbs - 1) false == decide (l > 0))
def holds (c : List Int) (v : List Bool) : Bool := c.any fun l => litT l v
def badLit (n l : Int) : Bool := decide (l = 0 ∨ l > n ∨ l < -n)
def clauseErr (c : List Int) (n : Int) : Int := if c.length > 64 then 2 else if c.any (badLit n) then 1 else 0
theorem lit_is_eq (a : Int) : lit_is.f a = some (decide (a ≠ 0 ∧ a ≠ -9223372036854775808)) := by
  unfold lit_is.f
  by_cases h : a = 0
  · rw [if_pos h, decide_eq_false (by simp [h])]
  · rw [if_neg h]
    by_cases h2 : a = -9223372036854775808
    · rw [h2]; rfl
    · rw [decide_eq_true ⟨h, h2⟩]
      simpa using h2
theorem lit_variable_eq {a : Int} (h : I64 a) (hm : a ≠ -9223372036854775808) : lit_variable.f a = some ((a.natAbs : Nat) : Int) := by
  have := h.lo; have := h.hi
  unfold lit_variable.f mx wrap64
  split <;> (congr 1; omega)
theorem rd_at (xs : List Int) (i : Nat) (h : i < xs.length) : rd xs (i : Int) = xs[i] := by simp [rd, h]
theorem lit_Right_loop (c : List Int) (n : Int) (hc : ∀ l ∈ c, I64 l) (hn : I64 n) (hs : c.length < 4611686018427387904) : ∀ (m i : Nat), m + i = c.length →
    Tells (fun k => lit_Right.l0 k n c (c.length : Int) (i : Int)) (if (c.drop i).any (badLit n) then 1 else 0)
  | 0, i, h => by
    refine Tells.succ (fun k => by rw [lit_Right.l0]) (Tells.neg (by omega) ?_)
    rw [List.drop_of_length_le (by omega)]; exact Tells.const _
  | m + 1, i, h => by
    have hi : i < c.length := by omega
    have hl := hc _ (List.getElem_mem hi); have h1 := hl.lo; have h2 := hl.hi; have := hn.lo; have := hn.hi
    refine Tells.succ (fun k => by rw [lit_Right.l0]) (Tells.pos (by omega) (Tells.pos (by omega) (Tells.pos (by omega) ?_)))
    rw [rd_at _ _ hi, w64s hi hs, List.drop_eq_getElem_cons hi, List.any_cons, lit_is_eq]
    refine Tells.bind (Tells.const _) ?_
    by_cases hb : c[i] ≠ 0 ∧ c[i] ≠ -9223372036854775808
    · refine Tells.pos (decide_eq_true hb) ?_
      rw [lit_variable_eq hl hb.2]
      refine Tells.bind (Tells.const _) ?_
      by_cases hv : ((c[i].natAbs : Nat) : Int) > n
      · have e : badLit n c[i] = true := decide_eq_true (by omega)
        rw [e, Bool.true_or, if_pos rfl]
        exact Tells.pos hv (Tells.const _)
      · have e : badLit n c[i] = false := decide_eq_false (by omega)
        rw [e, Bool.false_or]
        exact Tells.neg hv (lit_Right_loop c n hc hn hs m (i + 1) (by omega))
    · have e : badLit n c[i] = true := decide_eq_true (by omega)
      rw [e, Bool.true_or, if_pos rfl]
      exact Tells.neg (by simpa using hb) (Tells.const _)
theorem lit_Right_tells (c : List Int) (n : Int) (hc : ∀ l ∈ c, I64 l) (hn : I64 n) (hs : c.length < 4611686018427387904) : Tells (fun k => lit_Right.f k c n) (clauseErr c n) := by
  unfold lit_Right.f clauseErr
  by_cases h : c.length > 64
  · rw [if_pos h]; exact Tells.pos (by omega) (Tells.const _)
  · rw [if_neg h]; exact Tells.neg (by omega) (lit_Right_loop c n hc hn hs c.length 0 rfl)
def clausesErr (n : Int) : List (List Int) → Int
  | [] => 0
  | c :: l => if clauseErr c n = 0 then clausesErr n l else clauseErr c n
def setErr (n : Int) (l : List (List Int)) : Int := if n < 0 ∨ n > 1024 then 1 else if l.length > 4096 then 2 else clausesErr n l
def Rows64 (l : List (List Int)) : Prop := l.length < 4611686018427387904 ∧ ∀ c ∈ l, c.length < 4611686018427387904 ∧ ∀ x ∈ c, I64 x
theorem rdL_at (xs : List (List Int)) (i : Nat) (h : i < xs.length) : rd_L3 xs (i : Int) = xs[i] := by simp [rd_L3, h]
def isL (l : Int) : Bool := decide (l ≠ 0 ∧ l ≠ -9223372036854775808)
def hasL (c : List Int) (l : Int) : Bool := isL l && c.any fun x => x == l
def withinL (a b : List Int) : Bool := a.all fun x => !isL x || hasL b x
theorem hasL_iff {c : List Int} {l : Int} : hasL c l = true ↔ isL l = true ∧ l ∈ c := by
  unfold hasL
  rw [Bool.and_eq_true, List.any_eq_true]
  refine ⟨fun h => ⟨h.1, ?_⟩, fun h => ⟨h.1, l, h.2, by simp⟩⟩
  obtain ⟨x, hx, e⟩ := h.2
  rw [← beq_iff_eq.1 e]; exact hx
theorem lit_is_isL (a : Int) : lit_is.f a = some (isL a) := lit_is_eq a
theorem Index_loop (c : List Int) (x : Int) (hs : c.length < 4611686018427387904) : ∀ (m i : Nat), m + i = c.length →
    ∃ r, Tells (fun k => slices_Index_int_int.l0 k c x (c.length : Int) (i : Int)) r ∧ decide (r ≥ 0) = (c.drop i).any fun y => y == x
  | 0, i, h => by
    refine ⟨-1, Tells.succ (fun k => by rw [slices_Index_int_int.l0]) (Tells.neg (by omega) (Tells.const _)), ?_⟩
    rw [List.drop_of_length_le (by omega)]; rfl
  | m + 1, i, h => by
    have hi : i < c.length := by omega
    rw [List.drop_eq_getElem_cons hi, List.any_cons]
    by_cases he : x = c[i]
    · refine ⟨(i : Int), Tells.succ (fun k => by rw [slices_Index_int_int.l0]) (Tells.pos (by omega) (Tells.pos (by omega) (Tells.pos (by omega) ?_))), ?_⟩
      · rw [rd_at _ _ hi]; exact Tells.pos he (Tells.const _)
      · rw [← he]; simp
    · obtain ⟨r, hr, hd⟩ := Index_loop c x hs m (i + 1) (by omega)
      refine ⟨r, Tells.succ (fun k => by rw [slices_Index_int_int.l0]) (Tells.pos (by omega) (Tells.pos (by omega) (Tells.pos (by omega) ?_))), ?_⟩
      · rw [rd_at _ _ hi, w64s hi hs]; exact Tells.neg he hr
      · rw [hd, show (c[i] == x) = false from beq_eq_false_iff_ne.2 (fun e => he e.symm), Bool.false_or]
theorem lit_Has_tells (c : List Int) (x : Int) (hs : c.length < 4611686018427387904) : Tells (fun k => lit_Has.f k c x) (hasL c x) := by
  unfold lit_Has.f hasL
  rw [lit_is_isL]
  refine Tells.bind (Tells.const _) ?_
  by_cases hx : isL x = true
  · obtain ⟨r, hr, hd⟩ := Index_loop c x hs c.length 0 rfl
    rw [hx, Bool.true_and]
    refine Tells.pos rfl (Tells.bind (v := c.any fun y => y == x) ?_ (Tells.const _))
    unfold slices_Contains_int_int.f
    refine Tells.bind (v := r) hr ?_
    rw [hd]; exact Tells.const _
  · rw [Bool.eq_false_iff.2 hx]
    exact Tells.neg (by decide) (Tells.const _)
theorem lit_Within_loop (a b : List Int) (ha : a.length < 4611686018427387904) (hb : b.length < 4611686018427387904) : ∀ (m i : Nat), m + i = a.length →
    Tells (fun k => lit_Within.l0 k b a (a.length : Int) (i : Int)) (withinL (a.drop i) b)
  | 0, i, h => by
    refine Tells.succ (fun k => by rw [lit_Within.l0]) (Tells.neg (by omega) ?_)
    rw [List.drop_of_length_le (by omega)]; exact Tells.const _
  | m + 1, i, h => by
    have hi : i < a.length := by omega
    have ih := lit_Within_loop a b ha hb m (i + 1) (by omega)
    refine Tells.succ (fun k => by rw [lit_Within.l0]) (Tells.pos (by omega) (Tells.pos (by omega) (Tells.pos (by omega) ?_)))
    rw [rd_at _ _ hi, w64s hi ha, List.drop_eq_getElem_cons hi, withinL, List.all_cons, lit_is_isL]
    refine Tells.bind (Tells.const _) ?_
    by_cases hx : isL a[i] = true
    · refine Tells.pos hx (Tells.bind (lit_Has_tells b a[i] hb) ?_)
      by_cases hh : hasL b a[i] = true
      · refine Tells.pos hh ?_
        rw [hh, Bool.or_true, Bool.true_and]; exact ih
      · refine Tells.neg hh ?_
        rw [hx, Bool.eq_false_iff.2 hh]; exact Tells.const _
    · refine Tells.neg hx ?_
      rw [Bool.eq_false_iff.2 hx]; exact ih
theorem lit_Within_tells (a b : List Int) (ha : a.length < 4611686018427387904) (hb : b.length < 4611686018427387904) : Tells (fun k => lit_Within.f k a b) (withinL a b) := lit_Within_loop a b ha hb a.length 0 rfl
def aheadL (a b : Int) : Bool := decide (a.natAbs < b.natAbs) || (decide (a.natAbs = b.natAbs) && decide (a < b))
def insL (x : Int) (out : List Int) : List Int := out.takeWhile (fun y => aheadL y x) ++ x :: out.dropWhile (fun y => aheadL y x)
def cleanStep (out : List Int) (x : Int) : List Int := if isL x && !hasL out x then insL x out else out
def cleanL (c : List Int) : List Int := c.foldl cleanStep []
def oppL (c : List Int) : Bool := c.any fun x => hasL c (-x)
theorem insL_mem {x y : Int} {out : List Int} : y ∈ insL x out ↔ y = x ∨ y ∈ out := by
  unfold insL
  rw [List.mem_append, List.mem_cons]
  constructor
  · rintro (h | h | h)
    · exact .inr (List.takeWhile_subset _ h)
    · exact .inl h
    · exact .inr (List.dropWhile_subset _ h)
  · rintro (h | h)
    · exact .inr (.inl h)
    · rw [← List.takeWhile_append_dropWhile (p := fun y => aheadL y x) (l := out), List.mem_append] at h
      rcases h with h | h
      · exact .inl h
      · exact .inr (.inr h)
theorem insL_length (x : Int) (out : List Int) : (insL x out).length = out.length + 1 := by
  have := congrArg List.length (List.takeWhile_append_dropWhile (p := fun y => aheadL y x) (l := out))
  unfold insL
  rw [List.length_append] at this ⊢
  rw [List.length_cons]; omega
theorem cleanStep_mem {out : List Int} {x y : Int} : y ∈ cleanStep out x ↔ y ∈ out ∨ (y = x ∧ isL x = true) := by
  unfold cleanStep
  by_cases h : (isL x && !hasL out x) = true
  · rw [if_pos h, insL_mem]
    have := (Bool.and_eq_true _ _ ▸ h).1
    exact ⟨fun h => h.elim (fun e => .inr ⟨e, this⟩) .inl, fun h => h.elim .inr (fun e => .inl e.1)⟩
  · rw [if_neg h]
    refine ⟨.inl, fun h' => h'.elim id fun ⟨e, hl⟩ => ?_⟩
    have : hasL out x = true := by
      rw [hl, Bool.true_and] at h
      simpa using h
    rw [e]; exact (hasL_iff.1 this).2
theorem cleanFold_mem : ∀ (c out : List Int) {y : Int}, y ∈ c.foldl cleanStep out ↔ y ∈ out ∨ (y ∈ c ∧ isL y = true)
  | [], _, _ => by simp
  | _ :: t, _, y => by
    rw [List.foldl_cons, cleanFold_mem t, cleanStep_mem, List.mem_cons]
    constructor
    · rintro ((h | ⟨rfl, h⟩) | ⟨h, h'⟩)
      · exact .inl h
      · exact .inr ⟨.inl rfl, h⟩
      · exact .inr ⟨.inr h, h'⟩
    · rintro (h | ⟨rfl | h, h'⟩)
      · exact .inl (.inl h)
      · exact .inl (.inr ⟨rfl, h'⟩)
      · exact .inr ⟨h, h'⟩
theorem cleanL_mem {c : List Int} {y : Int} : y ∈ cleanL c ↔ y ∈ c ∧ isL y = true := by unfold cleanL; rw [cleanFold_mem]; simp
theorem cleanStep_length (out : List Int) (x : Int) : (cleanStep out x).length ≤ out.length + 1 := by
  unfold cleanStep
  split
  · rw [insL_length]; omega
  · omega
theorem ahead_iff {a b : Int} : aheadL a b = true ↔ a.natAbs < b.natAbs ∨ (a.natAbs = b.natAbs ∧ a < b) := by
  unfold aheadL
  simp only [Bool.or_eq_true, Bool.and_eq_true, decide_eq_true_eq]
theorem ahead_asymm {a b : Int} (h : aheadL a b = true) : ¬ aheadL b a = true := by
  rw [ahead_iff] at h ⊢; omega
theorem ahead_irrefl (a : Int) : ¬ aheadL a a = true := by
  rw [ahead_iff]; omega
theorem ahead_trans {a b c : Int} (h : aheadL a b = true) (h' : aheadL b c = true) : aheadL a c = true := by
  rw [ahead_iff] at h h' ⊢; omega
theorem ahead_total {a b : Int} (h : a ≠ b) : aheadL a b = true ∨ aheadL b a = true := by
  rw [ahead_iff, ahead_iff]; omega
theorem rising_ext : ∀ (a b : List Int), a.Pairwise (fun x y => aheadL x y = true) → b.Pairwise (fun x y => aheadL x y = true) → (∀ x, x ∈ a ↔ x ∈ b) → a = b
  | [], [], _, _, _ => rfl
  | [], y :: b, _, _, h => absurd ((h y).2 (by simp)) (by simp)
  | x :: a, [], _, _, h => absurd ((h x).1 (by simp)) (by simp)
  | x :: a, y :: b, ha, hb, h => by
    rw [List.pairwise_cons] at ha hb
    have e : x = y := by
      refine Decidable.byContradiction fun hne => ?_
      have h1 : aheadL y x = true := by
        rcases List.mem_cons.1 ((h x).1 (by simp)) with e | hm
        · exact absurd e hne
        · exact hb.1 x hm
      have h2 : aheadL x y = true := by
        rcases List.mem_cons.1 ((h y).2 (by simp)) with e | hm
        · exact absurd e.symm hne
        · exact ha.1 y hm
      exact ahead_asymm h1 h2
    subst e
    rw [rising_ext a b ha.2 hb.2 (fun z => ?_)]
    constructor
    · intro hz
      rcases List.mem_cons.1 ((h z).1 (by simp [hz])) with e | hm
      · exact absurd (ha.1 z hz) (e ▸ ahead_irrefl z)
      · exact hm
    · intro hz
      rcases List.mem_cons.1 ((h z).2 (by simp [hz])) with e | hm
      · exact absurd (hb.1 z hz) (e ▸ ahead_irrefl z)
      · exact hm
theorem insL_rises {x : Int} : ∀ {out : List Int}, out.Pairwise (fun x y => aheadL x y = true) → ¬ x ∈ out → (insL x out).Pairwise (fun x y => aheadL x y = true)
  | [], _, _ => by unfold insL; simp
  | y :: out, h, hx => by
    rw [List.pairwise_cons] at h
    have hne : y ≠ x := fun e => hx (by simp [e])
    by_cases hy : aheadL y x = true
    · have e : insL x (y :: out) = y :: insL x out := by
        unfold insL
        rw [List.takeWhile_cons_of_pos (p := fun y => aheadL y x) hy, List.dropWhile_cons_of_pos (p := fun y => aheadL y x) hy]; rfl
      rw [e, List.pairwise_cons]
      refine ⟨fun z hz => ?_, insL_rises h.2 (fun hm => hx (by simp [hm]))⟩
      rcases insL_mem.1 hz with rfl | hz
      · exact hy
      · exact h.1 z hz
    · have e : insL x (y :: out) = x :: y :: out := by
        unfold insL
        rw [List.takeWhile_cons_of_neg (p := fun y => aheadL y x) hy, List.dropWhile_cons_of_neg (p := fun y => aheadL y x) hy]; rfl
      have hxy : aheadL x y = true := (ahead_total hne).resolve_left hy
      rw [e, List.pairwise_cons, List.pairwise_cons]
      refine ⟨fun z hz => ?_, h⟩
      rcases List.mem_cons.1 hz with rfl | hz
      · exact hxy
      · exact ahead_trans hxy (h.1 z hz)
theorem cleanStep_rises {out : List Int} {x : Int} (h : out.Pairwise (fun x y => aheadL x y = true)) : (cleanStep out x).Pairwise (fun x y => aheadL x y = true) := by
  unfold cleanStep
  by_cases hc : (isL x && !hasL out x) = true
  · rw [if_pos hc]
    refine insL_rises h fun hm => ?_
    rw [Bool.and_eq_true] at hc
    have := hasL_iff.2 ⟨hc.1, hm⟩
    rw [this] at hc
    simp at hc
  · rw [if_neg hc]; exact h
theorem cleanFold_rises : ∀ (c out : List Int), out.Pairwise (fun x y => aheadL x y = true) → (c.foldl cleanStep out).Pairwise (fun x y => aheadL x y = true)
  | [], _, h => h
  | _ :: t, _, h => cleanFold_rises t _ (cleanStep_rises h)
theorem cleanL_rises (c : List Int) : (cleanL c).Pairwise (fun x y => aheadL x y = true) := cleanFold_rises c [] List.Pairwise.nil
theorem cfL_ahead {a b : Int} (ha : I64 a) (hb : I64 b) (la : isL a = true) (lb : isL b = true) : Go.Proofs.ltOf cfL a b = aheadL a b := by
  have := ha.lo; have := ha.hi; have := hb.lo; have := hb.hi
  have l1 := (of_decide_eq_true la).2
  have l2 := (of_decide_eq_true lb).2
  have e1 : mx a (wrap64 (-a)) = ((a.natAbs : Nat) : Int) := by
    unfold mx wrap64; split <;> omega
  have e2 : mx b (wrap64 (-b)) = ((b.natAbs : Nat) : Int) := by
    unfold mx wrap64; split <;> omega
  unfold Go.Proofs.ltOf
  rw [Bool.eq_iff_iff, decide_eq_true_eq, cfL_lt, e1, e2, ahead_iff]
  omega
theorem compact_mem (xs : List Int) (z : Int) : z ∈ Lib.compact xs ↔ z ∈ xs := by
  unfold Lib.compact Lib.compactUpTo
  rw [List.mem_map]
  constructor
  · rintro ⟨j, hj, rfl⟩
    have hj := List.mem_range.1 (List.mem_filter.1 hj).1
    simp [hj]
  · intro hz
    obtain ⟨i, hi, rfl⟩ := List.getElem_of_mem hz
    have key : ∀ j : Nat, j < xs.length → ∃ a, a ∈ (List.range xs.length).filter (Lib.keeps xs.toArray) ∧ xs.toArray[a]! = xs.toArray[j]! := by
      intro j
      induction j with
      | zero => exact fun h => ⟨0, List.mem_filter.2 ⟨List.mem_range.2 h, Lib.keeps_lt_one _ 0 (by omega)⟩, rfl⟩
      | succ j ih =>
        intro h
        by_cases e : xs.toArray[j + 1]! = xs.toArray[j + 1 - 1]!
        · obtain ⟨a, ha, ea⟩ := ih (by omega)
          exact ⟨a, ha, ea.trans e.symm⟩
        · exact ⟨j + 1, List.mem_filter.2 ⟨List.mem_range.2 h, Lib.keeps_pos e⟩, rfl⟩
    obtain ⟨a, ha, ea⟩ := key i hi
    exact ⟨a, ha, by rw [ea]; simp [hi]⟩
theorem compact_rises (xs : List Int) (h : xs.Pairwise (fun x y => ¬ aheadL y x = true)) : (Lib.compact xs).Pairwise (fun x y => aheadL x y = true) := by
  unfold Lib.compact Lib.compactUpTo
  rw [List.pairwise_map]
  have hs : ∀ i j : Nat, i < j → j < xs.length → ¬ aheadL xs.toArray[j]! xs.toArray[i]! = true := fun i j hij hj => by
    have := List.pairwise_iff_getElem.1 h i j (by omega) hj hij
    simpa [hj, show i < xs.length by omega] using this
  have hr : (List.range xs.length).Pairwise (· < ·) := List.pairwise_lt_range
  refine List.Pairwise.imp_of_mem (R := (· < ·)) (fun {i j} hi hj hij => ?_) (hr.filter _)
  obtain ⟨hj, hk⟩ := List.mem_filter.1 hj
  have hj := List.mem_range.1 hj
  have hk := of_decide_eq_true hk
  have hne : xs.toArray[j]! ≠ xs.toArray[j - 1]! := hk.resolve_left (by omega)
  have h1 : aheadL xs.toArray[j - 1]! xs.toArray[j]! = true := (ahead_total hne).resolve_left (hs (j - 1) j (by omega) hj)
  rcases Nat.lt_or_ge i (j - 1) with h2 | h2
  · by_cases e : xs.toArray[i]! = xs.toArray[j - 1]!
    · rw [e]; exact h1
    · exact ahead_trans ((ahead_total e).resolve_right (hs i (j - 1) h2 (by omega))) h1
  · obtain rfl : i = j - 1 := by omega
    exact h1
theorem lit_Clean_out (c : List Int) (hc : ∀ x ∈ c, I64 x) : lit_Clean.out c = cleanL c := by
  unfold lit_Clean.out
  have ef : (fun l => (lit_is.f l).getD false) = isL := funext fun l => by rw [lit_is_isL]; rfl
  rw [ef]
  have hm : ∀ z, z ∈ (c.filter isL).mergeSort (fun x y => !(Go.Proofs.ltOf cfL) y x) ↔ z ∈ c ∧ isL z = true := fun z => by rw [List.mem_mergeSort, List.mem_filter]
  refine rising_ext _ _ (compact_rises _ ?_) (cleanL_rises c) (fun z => by rw [compact_mem, hm, cleanL_mem])
  have hp := List.pairwise_mergeSort (le := fun x y => !(Go.Proofs.ltOf cfL) y x) (fun a b d h1 h2 => by
    rw [Bool.not_eq_true'] at h1 h2 ⊢
    exact cfL_swo.ntrans _ _ _ h2 h1) (fun a b => by
    rw [Bool.or_eq_true, Bool.not_eq_true', Bool.not_eq_true']
    by_cases h : Go.Proofs.ltOf cfL b a = true
    · refine .inr ?_
      rw [Bool.eq_false_iff]
      intro h'
      have := cfL_swo.trans _ _ _ h h'
      rw [cfL_swo.irrefl] at this; cases this
    · exact .inl (Bool.eq_false_iff.2 h)) (c.filter isL)
  refine hp.imp_of_mem fun {x y} hx hy h => ?_
  rw [hm] at hx hy
  rw [Bool.not_eq_true', cfL_ahead (hc _ hy.1) (hc _ hx.1) hy.2 hx.2] at h
  rw [h]; decide
theorem adjB_iff : ∀ (l : List Int), l.Pairwise (fun x y => aheadL x y = true) → (∀ x ∈ l, I64 x ∧ isL x = true) → (adjB l = true ↔ ∃ x ∈ l, -x ∈ l)
  | [], _, _ => by simp [adjB]
  | [x], _, h => by
    have h1 := of_decide_eq_true (h x (by simp)).2
    simp only [adjB, List.mem_singleton, exists_eq_left]
    constructor
    · intro h; cases h
    · intro h; omega
  | x :: y :: t, hp, h => by
    obtain ⟨hx, hp'⟩ := List.pairwise_cons.1 hp
    have ih := adjB_iff (y :: t) hp' (fun z hz => h z (List.mem_cons_of_mem _ hz))
    obtain ⟨i1, i2⟩ := h x (by simp)
    have j1 := i1.lo; have j2 := i1.hi
    have i3 := of_decide_eq_true i2
    have hw : wrap64 (-x) = -x := w64 (by omega) (by omega)
    rw [adjB, Bool.or_eq_true, ih, beq_iff_eq, hw]
    constructor
    · rintro (h | ⟨z, h1, h2⟩)
      · exact ⟨x, by simp, by simp [h]⟩
      · exact ⟨z, List.mem_cons_of_mem _ h1, List.mem_cons_of_mem _ h2⟩
    · have key : -x ∈ y :: t → y = -x := fun hm => by
        rcases List.mem_cons.1 hm with e | hm
        · exact e.symm
        · have a1 := ahead_iff.1 (hx y (by simp))
          have a2 := ahead_iff.1 ((List.pairwise_cons.1 hp').1 _ hm)
          omega
      rintro ⟨z, h1, h2⟩
      rcases List.mem_cons.1 h1 with rfl | h1
      · rcases List.mem_cons.1 h2 with e | h2
        · omega
        · exact .inl (key h2)
      · rcases List.mem_cons.1 h2 with e | h2
        · have : z = -x := by omega
          exact .inl (key (this ▸ h1))
        · exact .inr ⟨z, h1, h2⟩
theorem oppL_iff {l : List Int} (h : ∀ x ∈ l, I64 x ∧ isL x = true) : oppL l = true ↔ ∃ x ∈ l, -x ∈ l := by
  unfold oppL
  rw [List.any_eq_true]
  constructor
  · rintro ⟨x, h1, h2⟩
    exact ⟨x, h1, (hasL_iff.1 h2).2⟩
  · rintro ⟨x, h1, h2⟩
    exact ⟨x, h1, hasL_iff.2 ⟨(h _ h2).2, h2⟩⟩
theorem cleanL_good {c : List Int} (hc : ∀ x ∈ c, I64 x) : ∀ x ∈ cleanL c, I64 x ∧ isL x = true := fun x hx => by
  rw [cleanL_mem] at hx
  exact ⟨hc x hx.1, hx.2⟩
theorem cleanL_length (c : List Int) : (cleanL c).length ≤ c.length := by
  have : ∀ (c out : List Int), (c.foldl cleanStep out).length ≤ out.length + c.length := by
    intro c
    induction c with
    | nil => intro out; simp
    | cons x t ih =>
      intro out
      rw [List.foldl_cons, List.length_cons]
      have := ih (cleanStep out x); have := cleanStep_length out x
      omega
  have := this c []
  unfold cleanL
  simpa using this
theorem adjB_oppL {c : List Int} (hc : ∀ x ∈ c, I64 x) : adjB (cleanL c) = oppL (cleanL c) := by
  rw [Bool.eq_iff_iff, adjB_iff _ (cleanL_rises c) (cleanL_good hc), oppL_iff (cleanL_good hc)]
theorem lit_Clean_eq (c : List Int) (hc : ∀ x ∈ c, I64 x) (hs : c.length < 17592186044416) : lit_Clean.f c = some (cleanL c, !oppL (cleanL c)) := by
  unfold lit_Clean.f
  rw [lit_Clean_out c hc, adjB_oppL hc, if_pos ⟨hs, cleanL_length c⟩]
def pivL : List Nat → Int × Bool
  | [] => (0, false)
  | v :: t => if t.all (· == v) then ((v : Int), true) else (0, false)
def meets (b : List Int) (l : Int) : Bool := isL l && hasL b (wrap64 (-l))
def pivs (a b : List Int) : List Nat := (a.filter (meets b)).map Int.natAbs
def pivotL (a b : List Int) : Int × Bool := pivL (pivs a b)
def parents (a b : List Int) (v : Int) : List Int := a.filter (· != v) ++ b.filter (· != wrap64 (-v))
def finR (c : List Int) : List Int × Int := if oppL (cleanL c) = true then ([], 4) else (cleanL c, 0)
def resolveL (a b : List Int) (v : Int) : List Int × Int := if (hasL a v && hasL b (wrap64 (-v))) = true then finR (parents a b v) else ([], 1)
theorem natAbs_pos_of_isL {l : Int} (hl : isL l = true) : l.natAbs ≠ 0 := by
  have := (of_decide_eq_true hl).1
  omega
theorem parents_good {a b : List Int} {v : Int} (ha : ∀ x ∈ a, I64 x) (hb : ∀ x ∈ b, I64 x) : ∀ x ∈ parents a b v, I64 x := fun x hx => by
  unfold parents at hx
  rcases List.mem_append.1 hx with h | h
  · exact ha x ((List.mem_filter.1 h).1)
  · exact hb x ((List.mem_filter.1 h).1)
theorem parents_length (a b : List Int) (v : Int) : (parents a b v).length ≤ a.length + b.length := by
  unfold parents
  rw [List.length_append]
  have := List.length_filter_le (· != v) a
  have := List.length_filter_le (· != wrap64 (-v)) b
  omega
theorem resolveL_length (a b : List Int) (v : Int) : (resolveL a b v).1.length ≤ a.length + b.length := by
  unfold resolveL finR
  split
  · split
    · simp
    · exact Nat.le_trans (cleanL_length _) (parents_length a b v)
  · simp
theorem resolveL_good {a b : List Int} {v : Int} (ha : ∀ x ∈ a, I64 x) (hb : ∀ x ∈ b, I64 x) : ∀ x ∈ (resolveL a b v).1, I64 x ∧ isL x = true := fun x hx => by
  unfold resolveL finR at hx
  split at hx
  · split at hx
    · cases hx
    · exact cleanL_good (parents_good ha hb) x hx
  · cases hx
theorem Ints_loop (a b : List Int) (hl : a.length = b.length) (hs : a.length < 4611686018427387904) : ∀ (n i : Nat), n + i = a.length → Tells (fun k => sequiturbase_Ints.l0 k a b (i : Int)) (a.drop i == b.drop i)
  | 0, i, h => by
    refine Tells.succ (fun k => by rw [sequiturbase_Ints.l0]) (Tells.neg (by omega) ?_)
    rw [List.drop_of_length_le (by omega), List.drop_of_length_le (by omega)]; exact Tells.const _
  | n + 1, i, h => by
    refine Tells.succ (fun k => by rw [sequiturbase_Ints.l0]) (Tells.pos (by omega) (Tells.pos (by omega) (Tells.pos (by omega) ?_)))
    rw [rd_at _ _ (by omega : i < a.length), rd_at _ _ (by omega : i < b.length), w64s (by omega : i < a.length) hs,
      List.drop_eq_getElem_cons (by omega : i < a.length), List.drop_eq_getElem_cons (by omega : i < b.length), List.cons_beq_cons]
    by_cases e : a[i] = b[i]
    · refine Tells.pos e ?_
      rw [beq_iff_eq.2 e, Bool.true_and]
      exact Ints_loop a b hl hs n (i + 1) (by omega)
    · refine Tells.neg e ?_
      rw [beq_eq_false_iff_ne.mpr e, Bool.false_and]; exact Tells.const _
theorem Ints_tells (a b : List Int) (hs : a.length < 4611686018427387904) : Tells (fun k => sequiturbase_Ints.f k a b) (a == b) := by
  unfold sequiturbase_Ints.f
  by_cases h : a.length = b.length
  · exact Tells.pos (by omega) (Ints_loop a b h hs a.length 0 rfl)
  · refine Tells.neg (by omega) ?_
    rw [show (a == b) = false from beq_eq_false_iff_ne.mpr fun e => h (by rw [e])]
    exact Tells.const _
theorem lit_Resolve_l1 (b : List Int) (v : Int) (hb : ∀ x ∈ b, I64 x) (N : Nat) (hN : N + b.length < 17592186044000) : ∀ (m i : Nat) (acc : List Int), m + i = b.length → acc.length ≤ N + i → (∀ x ∈ acc, I64 x) →
    Tells (fun k => lit_Resolve.l1 k v acc b (b.length : Int) (i : Int)) (finR (acc ++ (b.drop i).filter (· != wrap64 (-v))))
  | 0, i, acc, h, hl, hg => by
    refine Tells.succ (fun k => by rw [lit_Resolve.l1]) (Tells.neg (by omega) ?_)
    rw [List.drop_of_length_le (by omega), List.filter_nil, List.append_nil, lit_Clean_eq acc hg (by omega)]
    refine Tells.bind (Tells.const _) ?_
    unfold finR
    by_cases ho : oppL (cleanL acc) = true
    · rw [if_pos ho]; exact Tells.neg (by show ¬ (!oppL (cleanL acc)) = true; rw [ho]; decide) (Tells.const _)
    · rw [if_neg ho]; exact Tells.pos (by show (!oppL (cleanL acc)) = true; rw [Bool.eq_false_iff.2 ho]; rfl) (Tells.const _)
  | m + 1, i, acc, h, hl, hg => by
    have hi : i < b.length := by omega
    refine Tells.succ (fun k => by rw [lit_Resolve.l1]) (Tells.pos (by omega) (Tells.pos (by omega) (Tells.pos (by omega) ?_)))
    rw [rd_at _ _ hi, w64s hi (by omega), List.drop_eq_getElem_cons hi]
    by_cases e : b[i] = wrap64 (-v)
    · refine Tells.pos e ?_
      rw [List.filter_cons_of_neg (by simp [e])]
      exact lit_Resolve_l1 b v hb N hN m (i + 1) acc (by omega) (by omega) hg
    · refine Tells.neg e (Tells.pos (by omega) ?_)
      rw [List.filter_cons_of_pos (by simpa using e), List.append_cons acc b[i] (List.filter (· != wrap64 (-v)) (b.drop (i + 1)))]
      exact lit_Resolve_l1 b v hb N hN m (i + 1) (acc ++ [b[i]]) (by omega) (by simp; omega) (fun x hx => by
        rcases List.mem_append.1 hx with hx | hx
        · exact hg x hx
        · rw [List.mem_singleton.1 hx]; exact hb _ (List.getElem_mem hi))
theorem lit_Resolve_l0 (a b : List Int) (v : Int) (ha : ∀ x ∈ a, I64 x) (hb : ∀ x ∈ b, I64 x) (hN : a.length + b.length < 17592186044000) : ∀ (m i : Nat) (acc : List Int), m + i = a.length → acc.length ≤ i → (∀ x ∈ acc, I64 x) →
    Tells (fun k => lit_Resolve.l0 k b v acc a (a.length : Int) (i : Int)) (finR (acc ++ (a.drop i).filter (· != v) ++ b.filter (· != wrap64 (-v))))
  | 0, i, acc, h, hl, hg => by
    refine Tells.succ (fun k => by rw [lit_Resolve.l0]) (Tells.neg (by omega) ?_)
    rw [List.drop_of_length_le (by omega), List.filter_nil, List.append_nil]
    exact lit_Resolve_l1 b v hb a.length hN b.length 0 acc rfl (by omega) hg
  | m + 1, i, acc, h, hl, hg => by
    have hi : i < a.length := by omega
    refine Tells.succ (fun k => by rw [lit_Resolve.l0]) (Tells.pos (by omega) (Tells.pos (by omega) (Tells.pos (by omega) ?_)))
    rw [rd_at _ _ hi, w64s hi (by omega), List.drop_eq_getElem_cons hi]
    by_cases e : a[i] = v
    · refine Tells.pos e ?_
      rw [List.filter_cons_of_neg (by simp [e])]
      exact lit_Resolve_l0 a b v ha hb hN m (i + 1) acc (by omega) (by omega) hg
    · refine Tells.neg e (Tells.pos (by omega) ?_)
      rw [List.filter_cons_of_pos (by simpa using e), List.append_cons acc a[i] (List.filter (· != v) (a.drop (i + 1)))]
      exact lit_Resolve_l0 a b v ha hb hN m (i + 1) (acc ++ [a[i]]) (by omega) (by simp; omega) (fun x hx => by
        rcases List.mem_append.1 hx with hx | hx
        · exact hg x hx
        · rw [List.mem_singleton.1 hx]; exact ha _ (List.getElem_mem hi))
theorem lit_Resolve_tells (a b : List Int) (v : Int) (ha : ∀ x ∈ a, I64 x) (hb : ∀ x ∈ b, I64 x) (hN : a.length + b.length < 17592186044000) : Tells (fun k => lit_Resolve.f k a b v) (resolveL a b v) := by
  unfold lit_Resolve.f resolveL
  refine Tells.bind (lit_Has_tells a v (by omega)) ?_
  by_cases h1 : hasL a v = true
  · refine Tells.pos h1 (Tells.bind (lit_Has_tells b _ (by omega)) ?_)
    by_cases h2 : hasL b (wrap64 (-v)) = true
    · rw [h1, h2, if_pos (by rfl)]
      refine Tells.succ (fun k => by rw [lit_Resolve.j0]) (Tells.neg (by decide) ?_)
      exact lit_Resolve_l0 a b v ha hb hN a.length 0 [] rfl (by simp) (by simp)
    · rw [Bool.eq_false_iff.2 h2, Bool.and_false, if_neg (by decide)]
      exact Tells.succ (fun k => by rw [lit_Resolve.j0]) (Tells.pos (by rfl) (Tells.const _))
  · rw [Bool.eq_false_iff.2 h1, Bool.false_and, if_neg (by decide)]
    exact Tells.neg (by decide) (Tells.succ (fun k => by rw [lit_Resolve.j0]) (Tells.pos (by rfl) (Tells.const _)))
theorem lit_Pivot_loop (a b : List Int) (ha : ∀ x ∈ a, I64 x) (hs : a.length < 4611686018427387904) (hbs : b.length < 4611686018427387904) : ∀ (m i found : Nat), m + i = a.length →
    Tells (fun k => lit_Pivot.l0 k b (found : Int) a (a.length : Int) (i : Int)) (if found = 0 then pivL (pivs (a.drop i) b) else if (pivs (a.drop i) b).all (· == found) = true then ((found : Int), true) else (0, false))
  | 0, i, found, h => by
    refine Tells.succ (fun k => by rw [lit_Pivot.l0]) (Tells.neg (by omega) ?_)
    rw [List.drop_of_length_le (by omega)]
    by_cases e : found = 0
    · subst e; rw [if_pos rfl]; exact Tells.const _
    · rw [if_neg e, show pivs [] b = [] from rfl, if_pos (by rfl), show ((found : Int) != 0) = true by simpa using e]; exact Tells.const _
  | m + 1, i, found, h => by
    have hi : i < a.length := by omega
    have hx := ha _ (List.getElem_mem hi)
    have ih := fun f => lit_Pivot_loop a b ha hs hbs m (i + 1) f (by omega)
    refine Tells.succ (fun k => by rw [lit_Pivot.l0]) (Tells.pos (by omega) (Tells.pos (by omega) (Tells.pos (by omega) ?_)))
    rw [rd_at _ _ hi, List.drop_eq_getElem_cons hi, lit_is_isL]
    have skip : meets b a[i] = false → Tells (fun k => lit_Pivot.j1 k b (found : Int) a[i] a (a.length : Int) (i : Int) true) (if found = 0 then pivL (pivs (a[i] :: a.drop (i + 1)) b) else if (pivs (a[i] :: a.drop (i + 1)) b).all (· == found) = true then ((found : Int), true) else (0, false)) := fun e => by
      refine Tells.succ (fun k => by rw [lit_Pivot.j1]) (Tells.pos rfl ?_)
      rw [w64s hi hs, show pivs (a[i] :: a.drop (i + 1)) b = pivs (a.drop (i + 1)) b by unfold pivs; rw [List.filter_cons_of_neg (by simp [e])]]
      exact ih found
    refine Tells.bind (Tells.const _) ?_
    by_cases hl : isL a[i] = true
    · refine Tells.pos hl (Tells.bind (lit_Has_tells b _ hbs) ?_)
      by_cases hh : hasL b (wrap64 (-a[i])) = true
      · refine Tells.pos hh ?_
        have hm := (of_decide_eq_true hl).2
        have hz := natAbs_pos_of_isL hl
        rw [lit_variable_eq hx hm]
        refine Tells.bind (Tells.const _) ?_
        have hp : pivs (a[i] :: a.drop (i + 1)) b = a[i].natAbs :: pivs (a.drop (i + 1)) b := by
          unfold pivs
          rw [List.filter_cons_of_pos (by unfold meets; rw [hl, hh]; rfl)]; rfl
        rw [hp]
        refine Tells.succ (fun k => by rw [lit_Pivot.j1]) ?_
        by_cases e : a[i].natAbs = found
        · refine Tells.pos (by rw [e]; simp) ?_
          rw [w64s hi hs, if_neg (by omega), List.all_cons, beq_iff_eq.2 e, Bool.true_and]
          have := ih found
          rw [if_neg (by omega)] at this
          exact this
        · refine Tells.neg (by rw [beq_iff_eq]; omega) ?_
          by_cases e0 : found = 0
          · refine Tells.pos (by omega) ?_
            rw [lit_variable_eq hx hm, if_pos e0]
            refine Tells.bind (Tells.const _) ?_
            rw [w64s hi hs]
            have := ih a[i].natAbs
            rw [if_neg hz] at this
            exact this
          · refine Tells.neg (by omega) ?_
            rw [if_neg e0, List.all_cons, beq_eq_false_iff_ne.2 e, Bool.false_and, if_neg (by decide)]
            exact Tells.const _
      · refine Tells.neg hh (skip ?_)
        unfold meets; rw [hl, Bool.eq_false_iff.2 hh]; rfl
    · refine Tells.neg hl (skip ?_)
      unfold meets; rw [Bool.eq_false_iff.2 hl]; rfl
theorem lit_Pivot_tells (a b : List Int) (ha : ∀ x ∈ a, I64 x) (hs : a.length < 4611686018427387904) (hbs : b.length < 4611686018427387904) : Tells (fun k => lit_Pivot.f k a b) (pivotL a b) := by
  have := lit_Pivot_loop a b ha hs hbs a.length 0 0 rfl
  rw [if_pos rfl] at this
  exact this
def byL (now c : List Int) (v : Int) : Int := if (hasL now v && hasL c (wrap64 (-v))) = true then v else wrap64 (-v)
theorem byL_pos {now c : List Int} {v : Int} (h : (hasL now v && hasL c (wrap64 (-v))) = true) : byL now c v = v := if_pos h
theorem byL_neg {now c : List Int} {v : Int} (h : (hasL now v && hasL c (wrap64 (-v))) = false) : byL now c v = wrap64 (-v) := if_neg (by rw [h]; decide)
def nextL (now c : List Int) : List Int × Int := if (pivotL now c).2 = true then resolveL now c (byL now c (pivotL now c).1) else ([], 30)
def goS (cs : List (List Int)) (cl : List Int) : List Int → Nat → List Int → List Int × Int × Int
  | [], _, now => if withinL now cl = true then (now, 0, 0) else ([], 0, 30)
  | k :: t, i, now => if k < 0 ∨ (cs.length : Int) ≤ k then ([], (i : Int), 3)
    else if i = 0 then goS cs cl t 1 (cleanL (cs.getD k.toNat []))
    else if (nextL now (cs.getD k.toNat [])).2 = 0 then goS cs cl t (i + 1) (nextL now (cs.getD k.toNat [])).1 else ([], (i : Int), 30)
def stepL (cs : List (List Int)) (n : Int) (cl fr : List Int) : List Int × Int × Int :=
  if clauseErr cl n = 0 then (if fr.length = 0 then ([], 0, 3) else goS cs cl fr 0 []) else ([], 0, clauseErr cl n)
theorem getD_good {cs : List (List Int)} {M : Nat} (h : ∀ c ∈ cs, c.length ≤ M ∧ ∀ x ∈ c, I64 x) (j : Nat) : (cs.getD j []).length ≤ M ∧ ∀ x ∈ cs.getD j [], I64 x := by
  by_cases hj : j < cs.length
  · rw [List.getD_eq_getElem?_getD, List.getElem?_eq_getElem hj, Option.getD_some]
    exact h _ (List.getElem_mem hj)
  · rw [List.getD_eq_getElem?_getD, List.getElem?_eq_none (by omega), Option.getD_none]
    exact ⟨by simp, by simp⟩
theorem rdL_getD {cs : List (List Int)} {k : Int} (h0 : 0 ≤ k) (h1 : k < (cs.length : Int)) : rd_L3 cs k = cs.getD k.toNat [] := by
  obtain ⟨j, rfl⟩ := Int.eq_ofNat_of_zero_le h0
  have hj : j < cs.length := by omega
  rw [rdL_at _ _ hj, Int.toNat_natCast, List.getD_eq_getElem?_getD, List.getElem?_eq_getElem hj, Option.getD_some]
theorem chain_Step_loop (cs : List (List Int)) (cl fr : List Int) (M : Nat) (hcs : ∀ c ∈ cs, c.length ≤ M ∧ ∀ x ∈ c, I64 x) (hcl : cl.length < 4611686018427387904) (hf : fr.length * M + M < 17592186044000) (hfs : fr.length < 4611686018427387904) :
    ∀ (m i : Nat) (now : List Int), m + i = fr.length → now.length ≤ i * M → (∀ x ∈ now, I64 x) → Tells (fun k => chain_Step.l0 k cs now fr (fr.length : Int) (i : Int) cl fr) (goS cs cl (fr.drop i) i now)
  | 0, i, now, h, hl, hg => by
    have hi : i = fr.length := by omega
    subst hi
    refine Tells.succ (fun k => by rw [chain_Step.l0]) (Tells.neg (by omega) ?_)
    rw [List.drop_of_length_le (by omega), goS]
    refine Tells.bind (lit_Within_tells now cl (by omega) hcl) ?_
    by_cases hw : withinL now cl = true
    · rw [if_pos hw, if_pos hw]; exact Tells.const _
    · rw [if_neg hw, if_neg hw]; exact Tells.const _
  | m + 1, i, now, h, hl, hg => by
    have hi : i < fr.length := by omega
    have hmul : (i + 1) * M ≤ fr.length * M := Nat.mul_le_mul_right M hi
    rw [Nat.add_mul, Nat.one_mul] at hmul
    refine Tells.succ (fun k => by rw [chain_Step.l0]) (Tells.pos (by omega) (Tells.pos (by omega) (Tells.pos (by omega) ?_)))
    rw [rd_at _ _ hi, List.drop_eq_getElem_cons hi, goS]
    obtain ⟨q, hq⟩ : ∃ q, fr[i] = q := ⟨_, rfl⟩
    rw [hq]
    have bad : (q < 0 ∨ (cs.length : Int) ≤ q) → Tells (fun k => chain_Step.j1 k cs now (i : Int) q fr (fr.length : Int) (i : Int) true cl fr) (if q < 0 ∨ (cs.length : Int) ≤ q then ([], (i : Int), 3)
        else if i = 0 then goS cs cl (fr.drop (i + 1)) 1 (cleanL (cs.getD q.toNat []))
        else if (nextL now (cs.getD q.toNat [])).2 = 0 then goS cs cl (fr.drop (i + 1)) (i + 1) (nextL now (cs.getD q.toNat [])).1 else ([], (i : Int), 30)) := fun hb => by
      rw [if_pos hb]
      refine Tells.succ (fun k => by rw [chain_Step.j1]) ?_
      exact Tells.pos rfl (Tells.const _)
    by_cases hn : q < 0
    · exact Tells.pos hn (bad (.inl hn))
    refine Tells.neg hn ?_
    by_cases hge : q ≥ (cs.length : Int)
    · rw [decide_eq_true hge]; exact bad (.inr hge)
    rw [decide_eq_false hge, if_neg (by omega)]
    refine Tells.succ (fun k => by rw [chain_Step.j1]) (Tells.neg (by decide) ?_)
    rw [rdL_getD (by omega) (by omega), w64s hi hfs]
    obtain ⟨hcM, hcg⟩ := getD_good hcs q.toNat
    obtain ⟨c, hc⟩ : ∃ c, cs.getD q.toNat [] = c := ⟨_, rfl⟩
    rw [hc] at hcM hcg ⊢
    by_cases h0 : i = 0
    · subst h0
      rw [if_pos rfl, lit_Clean_eq c hcg (by omega)]
      refine Tells.pos rfl (Tells.pos (by omega) (Tells.pos (by omega) (Tells.bind (Tells.const _) ?_)))
      exact chain_Step_loop cs cl fr M hcs hcl hf hfs m 1 (cleanL c) (by omega) (by have := cleanL_length c; omega) (fun x hx => (cleanL_good hcg x hx).1)
    · rw [if_neg h0]
      refine Tells.neg (by omega) (Tells.pos (by omega) (Tells.pos (by omega) (Tells.bind (lit_Pivot_tells now c hg (by omega) (by omega)) ?_)))
      unfold nextL
      by_cases hp : (pivotL now c).2 = true
      · rw [if_pos hp]
        refine Tells.pos hp ?_
        obtain ⟨v, hv⟩ : ∃ v, (pivotL now c).1 = v := ⟨_, rfl⟩
        rw [hv]
        have hlen := resolveL_length now c
        have hgood := fun v => resolveL_good (v := v) hg hcg
        have ih := fun v => chain_Step_loop cs cl fr M hcs hcl hf hfs m (i + 1) (resolveL now c v).1 (by omega) (by rw [Nat.add_mul, Nat.one_mul]; have := hlen v; omega) (fun x hx => (hgood v x hx).1)
        have fin : ∀ u, Tells (fun k => (lit_Resolve.f k now c u).bind fun bt => if bt.2 = 0 then chain_Step.l0 k cs bt.1 fr (fr.length : Int) ((i + 1 : Nat) : Int) cl fr else some (([] : List Int), (i : Int), 30))
            (if (resolveL now c u).2 = 0 then goS cs cl (fr.drop (i + 1)) (i + 1) (resolveL now c u).1 else ([], (i : Int), 30)) := fun u => by
          refine Tells.bind (lit_Resolve_tells now c u hg hcg (by omega)) ?_
          by_cases he : (resolveL now c u).2 = 0
          · rw [if_pos he]; exact Tells.pos he (ih u)
          · rw [if_neg he]; exact Tells.neg he (Tells.const _)
        have no : (hasL now v && hasL c (wrap64 (-v))) = false → Tells (fun k => chain_Step.j2 k cs now (i : Int) q v fr (fr.length : Int) (i : Int) true cl fr) (if (resolveL now c (byL now c v)).2 = 0 then goS cs cl (fr.drop (i + 1)) (i + 1) (resolveL now c (byL now c v)).1 else ([], (i : Int), 30)) := fun e => by
          rw [byL_neg e]
          refine Tells.succ (fun k => by rw [chain_Step.j2]) (Tells.pos rfl (Tells.pos (by omega) (Tells.pos (by omega) ?_)))
          rw [rdL_getD (by omega) (by omega), w64s hi hfs, hc]
          exact fin _
        refine Tells.bind (lit_Has_tells now v (by omega)) ?_
        by_cases h1 : hasL now v = true
        · refine Tells.pos h1 (Tells.bind (lit_Has_tells c _ (by omega)) ?_)
          by_cases h2 : hasL c (wrap64 (-v)) = true
          · rw [byL_pos (by rw [h1, h2]; rfl), h2]
            refine Tells.succ (fun k => by rw [chain_Step.j2]) (Tells.neg (by decide) (Tells.pos (by omega) (Tells.pos (by omega) ?_)))
            rw [rdL_getD (by omega) (by omega), w64s hi hfs, hc]
            exact fin _
          · have := no (by rw [Bool.eq_false_iff.2 h2, Bool.and_false])
            rw [Bool.eq_false_iff.2 h2]
            exact this
        · exact Tells.neg h1 (no (by rw [Bool.eq_false_iff.2 h1, Bool.false_and]))
      · rw [if_neg hp, if_neg (by decide)]
        exact Tells.neg hp (Tells.const _)
theorem chain_Step_tells (cs : List (List Int)) (n : Int) (cl fr : List Int) (M : Nat) (hcs : ∀ c ∈ cs, c.length ≤ M ∧ ∀ x ∈ c, I64 x) (hn : I64 n) (hcg : ∀ x ∈ cl, I64 x) (hcl : cl.length < 4611686018427387904) (hf : fr.length * M + M < 17592186044000) (hfs : fr.length < 4611686018427387904) :
    Tells (fun k => chain_Step.f k cs n cl fr) (stepL cs n cl fr) := by
  unfold chain_Step.f stepL
  refine Tells.bind (lit_Right_tells cl n hcg hn hcl) ?_
  by_cases he : clauseErr cl n = 0
  · rw [if_pos he]
    refine Tells.pos he ?_
    by_cases h0 : fr.length = 0
    · rw [if_pos h0]; exact Tells.pos (by omega) (Tells.const _)
    · rw [if_neg h0]
      exact Tells.neg (by omega) (chain_Step_loop cs cl fr M hcs hcl hf hfs fr.length 0 [] rfl (by simp) (by simp))
  · rw [if_neg he]; exact Tells.neg he (Tells.const _)
theorem cnf_Right_loop (l : List (List Int)) (n : Int) (hl : Rows64 l) (hn : I64 n) : ∀ (m i : Nat), m + i = l.length →
    ∃ x, Tells (fun k => cnf_Right.l0 k l (l.length : Int) (i : Int) n l) (x, clausesErr n (l.drop i))
  | 0, i, h => by
    refine ⟨0, Tells.succ (fun k => by rw [cnf_Right.l0]) (Tells.neg (by omega) ?_)⟩
    rw [List.drop_of_length_le (by omega)]; exact Tells.const _
  | m + 1, i, h => by
    have hi : i < l.length := by omega
    have hc := hl.2 _ (List.getElem_mem hi)
    have hR := lit_Right_tells l[i] n hc.2 hn hc.1
    rw [List.drop_eq_getElem_cons hi, clausesErr]
    by_cases hz : clauseErr l[i] n = 0
    · obtain ⟨x, hx⟩ := cnf_Right_loop l n hl hn m (i + 1) (by omega)
      refine ⟨x, Tells.succ (fun k => by rw [cnf_Right.l0]) (Tells.pos (by omega) (Tells.pos (by omega) (Tells.pos (by omega) ?_)))⟩
      rw [rdL_at _ _ hi, w64s hi hl.1]
      refine Tells.bind hR (Tells.pos hz ?_)
      rw [if_pos hz]; exact hx
    · refine ⟨(i : Int), Tells.succ (fun k => by rw [cnf_Right.l0]) (Tells.pos (by omega) (Tells.pos (by omega) (Tells.pos (by omega) ?_)))⟩
      rw [rdL_at _ _ hi]
      refine Tells.bind hR (Tells.neg hz ?_)
      rw [if_neg hz]; exact Tells.const _
theorem cnf_Right_tells (n : Int) (l : List (List Int)) (hl : Rows64 l) (hn : I64 n) : ∃ x, Tells (fun k => cnf_Right.f k n l) (x, setErr n l) := by
  unfold cnf_Right.f setErr
  have stop : ∀ n : Int, Tells (fun k => cnf_Right.j0 k true n l) (-1, 1) := fun n => Tells.succ (fun k => by rw [cnf_Right.j0]) (Tells.pos rfl (Tells.const _))
  by_cases h0 : n < 0
  · rw [if_pos (by omega)]
    exact ⟨_, Tells.pos h0 (stop n)⟩
  by_cases h1 : n > 1024
  · rw [if_pos (by omega)]
    refine ⟨-1, Tells.neg h0 ?_⟩
    rw [decide_eq_true h1]; exact stop n
  rw [if_neg (by omega)]
  by_cases h2 : l.length > 4096
  · rw [if_pos h2]
    refine ⟨-1, Tells.neg h0 ?_⟩
    rw [decide_eq_false h1]
    exact Tells.succ (fun k => by rw [cnf_Right.j0]) (Tells.neg (by decide) (Tells.pos (by omega) (Tells.const _)))
  · rw [if_neg h2]
    obtain ⟨x, hx⟩ : ∃ x, Tells (fun k => cnf_Right.l0 k l (l.length : Int) 0 n l) (x, clausesErr n l) := cnf_Right_loop l n hl hn l.length 0 rfl
    refine ⟨x, Tells.neg h0 ?_⟩
    rw [decide_eq_false h1]
    exact Tells.succ (fun k => by rw [cnf_Right.j0]) (Tells.neg (by decide) (Tells.neg (by omega) hx))
end Go.Proofs.Ytppkeonhbkahmaa.Pu
namespace Go.Proofs.Ytppkeonhbkahmaa.Pu
open Go.RowKit Go.Proofs.Ytppkeonhbkahmaa.P
theorem ixAny {α : Type} (p : α → Bool) : ∀ (l : List α) (i : Nat), decide (0 ≤ ixOf p l (i : Int)) = l.any p
  | [], i => rfl
  | x :: l, i => by
    rw [ixOf, List.any_cons]
    by_cases h : p x = true
    · rw [if_pos h, h, Bool.true_or]; exact decide_eq_true (by omega)
    · rw [if_neg h, Bool.eq_false_iff.2 h, Bool.false_or]
      exact ixAny p l (i + 1)
end Go.Proofs.Ytppkeonhbkahmaa.Pu
namespace Go.Proofs.Ytppkeonhbkahmaa.Pu
open Go.RowKit Go.Proofs.Ytppkeonhbkahmaa.P Go.Proofs.YtppkeonhbkahmaaW.PrintWords Go.Proofs.YtppkeonhbkahmaaW.PrintLast Go.Proofs.YtppkeonhbkahmaaW.PrintMore
def goC (n : Int) : List S48 → Nat → List (List Int) → Int × Int
  | [], _, _ => (0, 0)
  | x :: t, i, all => if (stepL all n x.f0 x.f1).2.2 = 0 then goC n t (i + 1) (all ++ [x.f0]) else ((i : Int), (stepL all n x.f0 x.f1).2.2)
def checkL (n : Int) (l : List (List Int)) (ch : List S48) : Int × Int := if setErr n l = 0 then (if (ch.length : Int) > 4096 then (-1, 2) else goC n ch 0 l) else (-1, setErr n l)
def endsL (l : List (List Int)) (ch : List S48) : Bool := l.any nilL || ch.any endsE
def refutesL (n : Int) (l : List (List Int)) (ch : List S48) : Int × Int := if (checkL n l ch).2 = 0 then (if endsL l ch = true then (0, 0) else ((ch.length : Int), 24)) else checkL n l ch
structure Fits (M F : Nat) (l : List (List Int)) (ch : List S48) : Prop where
  cs : ∀ c ∈ l, c.length ≤ M ∧ ∀ x ∈ c, I64 x
  ch : ∀ x ∈ ch, x.f0.length ≤ M ∧ x.f1.length ≤ F ∧ ∀ y ∈ x.f0, I64 y
  lim : F * M + M < 17592186044000
  limF : F < 4611686018427387904
theorem Fits.tail {M F : Nat} {l : List (List Int)} {x : S48} {t : List S48} (h : Fits M F l (x :: t)) : Fits M F (l ++ [x.f0]) t := by
  refine ⟨fun c hc => ?_, fun y hy => h.ch y (List.mem_cons_of_mem _ hy), h.lim, h.limF⟩
  rcases List.mem_append.1 hc with hc | hc
  · exact h.cs c hc
  · rw [List.mem_singleton.1 hc]
    have := h.ch x (by simp)
    exact ⟨this.1, this.2.2⟩
theorem Fits.step {M F : Nat} {l : List (List Int)} {x : S48} {t : List S48} (h : Fits M F l (x :: t)) : x.f1.length * M + M < 17592186044000 ∧ x.f1.length < 4611686018427387904 ∧ x.f0.length < 4611686018427387904 := by
  have h1 := h.ch x (by simp)
  have h2 : x.f1.length * M ≤ F * M := Nat.mul_le_mul_right M h1.2.1
  have h3 := h.lim
  have h4 := h.limF
  exact ⟨by omega, by omega, by omega⟩
theorem chain_Check_loop (n : Int) (M F : Nat) (hn : I64 n) : ∀ (ch : List S48) (i : Nat) (all : List (List Int)), Fits M F all ch → all.length + ch.length < 5864062014805 →
    Tells (fun k => chain_Check.l1 k n ch (i : Int) all) (goC n ch i all)
  | [], i, all, _, _ => Tells.of_eq fun k => by rw [chain_Check.l1, goC]
  | x :: t, i, all, hf, hs => by
    obtain ⟨h1, h2, h3⟩ := hf.step
    refine Tells.congr (fun k => by rw [chain_Check.l1]) ?_
    rw [goC]
    refine Tells.bind (chain_Step_tells all n x.f0 x.f1 M hf.cs hn (hf.ch x (by simp)).2.2 h3 h1 h2) ?_
    by_cases he : (stepL all n x.f0 x.f1).2.2 = 0
    · rw [if_pos he]
      refine Tells.pos he (Tells.pos (by simp at hs; omega) ?_)
      have := chain_Check_loop n M F hn t (i + 1) (all ++ [x.f0]) hf.tail (by simp at hs ⊢; omega)
      rw [show ((i : Int) + 1) = ((i + 1 : Nat) : Int) by omega]
      exact this
    · rw [if_neg he]
      exact Tells.neg he (Tells.const _)
theorem chain_Check_tells (n : Int) (l : List (List Int)) (ch : List S48) (M F : Nat) (hn : I64 n) (hl : Rows64 l) (hf : Fits M F l ch) : Tells (fun k => chain_Check.f k n l ch) (checkL n l ch) := by
  unfold chain_Check.f checkL
  obtain ⟨x, hx⟩ := cnf_Right_tells n l hl hn
  refine Tells.bind hx ?_
  by_cases he : setErr n l = 0
  · rw [if_pos he]
    refine Tells.pos he ?_
    by_cases hc : (ch.length : Int) > 4096
    · rw [if_pos hc]; exact Tells.pos hc (Tells.const _)
    · rw [if_neg hc]
      have hlen : l.length ≤ 4096 := by
        refine Decidable.byContradiction fun h => ?_
        unfold setErr at he
        split at he
        · cases he
        · rw [if_pos (by omega)] at he; cases he
      exact Tells.neg hc (chain_Check_loop n M F hn ch 0 l hf (by omega))
  · rw [if_neg he]
    exact Tells.neg he (Tells.const _)
theorem chain_Refutes_tells (n : Int) (l : List (List Int)) (ch : List S48) (M F : Nat) (hn : I64 n) (hl : Rows64 l) (hf : Fits M F l ch) : Tells (fun k => chain_Refutes.f k n l ch) (refutesL n l ch) := by
  unfold chain_Refutes.f refutesL
  refine Tells.bind (chain_Check_tells n l ch M F hn hl hf) ?_
  have e1 : decide (0 ≤ ixOf nilL l 0) = l.any nilL := ixAny nilL l 0
  have e2 : decide (0 ≤ ixOf endsE ch 0) = ch.any endsE := ixAny endsE ch 0
  rw [e1, e2]
  refine Tells.ite (fun he => ?_) (fun he => Tells.const _)
  unfold endsL
  cases h1 : l.any nilL with
  | true => exact Tells.const _
  | false =>
    cases h2 : ch.any endsE with
    | true => exact Tells.const _
    | false => exact Tells.const _
theorem goS_down {cs : List (List Int)} {cl : List Int} : ∀ (fr : List Int) (i : Nat) (now : List Int), (goS cs cl fr i now).2.2 = 0 → ∀ k ∈ fr, 0 ≤ k ∧ k < (cs.length : Int)
  | [], _, _, _, k, hk => by simp at hk
  | k :: t, i, now, h0, y, hy => by
    unfold goS at h0
    by_cases hb : k < 0 ∨ (cs.length : Int) ≤ k
    · rw [if_pos hb] at h0; exact absurd h0 (by show ¬ (3 : Int) = 0; decide)
    · rw [if_neg hb] at h0
      rcases List.mem_cons.1 hy with e | hy
      · rw [e]; omega
      · split at h0
        · exact goS_down t _ _ h0 y hy
        · split at h0
          · exact goS_down t _ _ h0 y hy
          · rename_i hn; exact absurd h0 (by show ¬ (30 : Int) = 0; decide)
theorem stepL_down {cs : List (List Int)} {n : Int} {cl fr : List Int} (h0 : (stepL cs n cl fr).2.2 = 0) : (∀ k ∈ fr, 0 ≤ k ∧ k < (cs.length : Int)) ∧ clauseErr cl n = 0 := by
  unfold stepL at h0
  by_cases h1 : clauseErr cl n = 0
  · rw [if_pos h1] at h0
    split at h0
    · exact absurd h0 (by show ¬ (3 : Int) = 0; decide)
    · exact ⟨goS_down fr 0 [] h0, h1⟩
  · rw [if_neg h1] at h0; exact absurd h0 h1
def fullTo (l : List (List Int)) (ch : List S48) (i : Nat) : List (List Int) := l ++ (ch.take i).map (·.f0)
theorem goC_steps {n : Int} : ∀ (ch : List S48) (i : Nat) (all : List (List Int)), (goC n ch i all).2 = 0 ↔ ∀ (j : Nat) (x : S48), ch[j]? = some x → (stepL (fullTo all ch j) n x.f0 x.f1).2.2 = 0
  | [], i, all => by simp [goC]
  | x :: t, i, all => by
    have ih := goC_steps (n := n) t (i + 1) (all ++ [x.f0])
    have hf : ∀ j, fullTo (all ++ [x.f0]) t j = fullTo all (x :: t) (j + 1) := fun j => by
      unfold fullTo
      rw [List.take_succ_cons, List.map_cons, List.append_assoc]; rfl
    unfold goC
    constructor
    · intro h
      split at h
      · rename_i h0
        intro j y hy
        cases j with
        | zero =>
          simp at hy
          subst hy
          simpa [fullTo] using h0
        | succ j => rw [← hf]; exact ih.1 h j y (by simpa using hy)
      · rename_i h0; exact absurd h h0
    · intro h
      have h0 := h 0 x rfl
      rw [show fullTo all (x :: t) 0 = all by simp [fullTo]] at h0
      rw [if_pos h0]
      exact ih.2 fun j y hy => by rw [hf]; exact h (j + 1) y (by simpa using hy)
theorem refutes_ok {n : Int} {l : List (List Int)} {ch : List S48} (h : (refutesL n l ch).2 = 0) : setErr n l = 0 ∧ ch.length ≤ 4096 ∧ (∀ (j : Nat) (x : S48), ch[j]? = some x → (stepL (fullTo l ch j) n x.f0 x.f1).2.2 = 0) ∧ endsL l ch = true := by
  unfold refutesL at h
  split at h
  · rename_i hc
    split at h
    · rename_i he
      unfold checkL at hc
      split at hc
      · rename_i hs
        split at hc
        · exact absurd hc (by show ¬ (2 : Int) = 0; decide)
        · exact ⟨hs, by omega, (goC_steps ch 0 l).1 hc, he⟩
      · rename_i hs; exact absurd hc hs
    · exact absurd h (by show ¬ (24 : Int) = 0; decide)
  · rename_i hc; exact absurd h hc
theorem fullTo_length (l : List (List Int)) (ch : List S48) (i : Nat) (hi : i ≤ ch.length) : (fullTo l ch i).length = l.length + i := by
  unfold fullTo
  rw [List.length_append, List.length_map, List.length_take]; omega
theorem refutes_down {n : Int} {l : List (List Int)} {ch : List S48} (h : (refutesL n l ch).2 = 0) : Down l.length (ch.map (·.f1)) := fun i f hf x hx => by
  rw [List.getElem?_map] at hf
  cases hc : ch[i]? with
  | none => rw [hc] at hf; cases hf
  | some y =>
    rw [hc] at hf
    injection hf with hf
    subst hf
    have hi := (List.getElem?_eq_some_iff.1 hc).1
    have := (stepL_down ((refutes_ok h).2.2.1 i y hc)).1 x hx
    rw [fullTo_length _ _ _ (by omega)] at this
    exact this
def pickN {α : Type} (d : α) (F : List α) (ks : List Nat) : List α := ks.map fun i => F.getD i d
def keepC (ch : List S48) (g : Int → Int) (ks : List Nat) : List S48 := ks.map fun i => ⟨(ch.getD i ⟨[], []⟩).f0, (ch.getD i ⟨[], []⟩).f1.map g⟩
section
variable {n : Int} {l : List (List Int)} {ch : List S48} {M Q : Nat → Bool}
end
def NeedsOf (l : List (List Int)) (ch : List S48) (M : Nat → Bool) : Prop :=
  (∃ a, l[a]? = some [] ∧ (∀ b, b < a → l[b]? ≠ some []) ∧ ∀ v, M v = decide (v = a)) ∨
  ((∀ c ∈ l, c ≠ []) ∧ ∃ (i0 : Nat) (x : S48), ch[i0]? = some x ∧ x.f0 = [] ∧ (∀ (j : Nat) (y : S48), j < i0 → ch[j]? = some y → y.f0 ≠ []) ∧ (∀ v, M v = true → v < l.length + ch.length) ∧ Least l.length (ch.map (·.f1)) ((l.length + i0 : Nat) : Int) (fun y => 0 ≤ y ∧ M y.toNat = true))
theorem nilL_iff {c : List Int} : nilL c = true ↔ c = [] := by
  unfold nilL
  rw [beq_iff_eq]
  constructor
  · intro h; exact List.eq_nil_of_length_eq_zero (by omega)
  · rintro rfl; rfl
theorem endsL_iff {l : List (List Int)} {ch : List S48} : endsL l ch = true ↔ [] ∈ l ∨ ∃ x ∈ ch, x.f0 = [] := by
  unfold endsL
  rw [Bool.or_eq_true, List.any_eq_true, List.any_eq_true]
  constructor
  · rintro (⟨c, hc, h⟩ | ⟨x, hx, h⟩)
    · rw [nilL_iff] at h; subst h; exact .inl hc
    · exact .inr ⟨x, hx, nilL_iff.1 h⟩
  · rintro (h | ⟨x, hx, h⟩)
    · exact .inl ⟨[], h, nilL_iff.2 rfl⟩
    · exact .inr ⟨x, hx, nilL_iff.2 h⟩
section
variable {n : Int} {l : List (List Int)} {ch : List S48} {M M' Q : Nat → Bool}
theorem NeedsOf.shut (h : NeedsOf l ch M) (i : Nat) (x : S48) (hx : ch[i]? = some x) (hm : M (l.length + i) = true) : ∀ v ∈ x.f1, M v.toNat = true := by
  intro v hv
  rcases h with ⟨a, ha, _, hM⟩ | ⟨_, i0, x0, _, _, _, _, hL⟩
  · rw [hM, decide_eq_true_eq] at hm
    have := (List.getElem?_eq_some_iff.1 ha).1; omega
  · exact (hL.shut i x.f1 (by rw [List.getElem?_map, hx]; rfl) ⟨by omega, by rw [Int.toNat_natCast]; exact hm⟩ v hv).2
theorem NeedsOf.lt (h : NeedsOf l ch M) (v : Nat) (hv : M v = true) : v < l.length + ch.length := by
  rcases h with ⟨a, ha, _, hM⟩ | ⟨_, i0, x0, _, _, _, hb, _⟩
  · rw [hM, decide_eq_true_eq] at hv
    have := (List.getElem?_eq_some_iff.1 ha).1; omega
  · exact hb v hv
theorem first_row {a b : Nat} (ha : l[a]? = some []) (ha2 : ∀ b, b < a → l[b]? ≠ some []) (hb : l[b]? = some []) (hb2 : ∀ c, c < b → l[c]? ≠ some []) : a = b := by
  rcases Nat.lt_trichotomy a b with h | h | h
  · exact absurd ha (hb2 a h)
  · exact h
  · exact absurd hb (ha2 b h)
theorem first_chain {i j : Nat} {x y : S48} (hx : ch[i]? = some x) (hx0 : x.f0 = []) (hx2 : ∀ (j : Nat) (y : S48), j < i → ch[j]? = some y → y.f0 ≠ []) (hy : ch[j]? = some y) (hy0 : y.f0 = []) (hy2 : ∀ (i : Nat) (x : S48), i < j → ch[i]? = some x → x.f0 ≠ []) : i = j := by
  rcases Nat.lt_trichotomy i j with h | h | h
  · exact absurd hx0 (hy2 i x h hx)
  · exact h
  · exact absurd hy0 (hx2 j y h hy)
theorem NeedsOf.eq (h : NeedsOf l ch M) (k : NeedsOf l ch M') : M = M' := by
  funext v
  rcases h with ⟨a, ha, ha2, hM⟩ | ⟨hn, i0, x, hx, hx0, hx2, hlt, hL⟩
  · rcases k with ⟨b, hb, hb2, hM'⟩ | ⟨hn, _⟩
    · rw [hM, hM', first_row ha ha2 hb hb2]
    · exact absurd rfl (hn _ (List.mem_iff_getElem?.2 ⟨a, ha⟩))
  · rcases k with ⟨b, hb, hb2, hM'⟩ | ⟨_, j0, y, hy, hy0, hy2, hlt', hL'⟩
    · exact absurd rfl (hn _ (List.mem_iff_getElem?.2 ⟨b, hb⟩))
    · obtain rfl := first_chain hx hx0 hx2 hy hy0 hy2
      have := hL.eq hL' (v : Int)
      simp only [Int.toNat_natCast] at this
      rw [Bool.eq_iff_iff]
      exact ⟨fun hv => (this.1 ⟨by omega, hv⟩).2, fun hv => (this.2 ⟨by omega, hv⟩).2⟩
theorem pickN_mem {F : List (List Int)} {c : List Int} (hc : c ∈ pickN [] F ((List.range F.length).filter Q)) : ∃ v, v < F.length ∧ Q v = true ∧ F[v]? = some c := by
  obtain ⟨v, hv, rfl⟩ := List.mem_map.1 hc
  obtain ⟨h1, h2⟩ := List.mem_filter.1 hv
  have h1 := List.mem_range.1 h1
  exact ⟨v, h1, h2, by rw [List.getD_eq_getElem?_getD, List.getElem?_eq_getElem h1]; rfl⟩
theorem keepC_at {g : Int → Int} {j : Nat} {y : S48} {P : Nat → Bool} (hy : (keepC ch g ((List.range ch.length).filter P))[j]? = some y) : ∃ (i : Nat) (x : S48), ch[i]? = some x ∧ P i = true ∧ j = below25 P i ∧ y = ⟨x.f0, x.f1.map g⟩ := by
  unfold keepC at hy
  rw [List.getElem?_map] at hy
  cases hk : ((List.range ch.length).filter P)[j]? with
  | none => rw [hk] at hy; cases hy
  | some i =>
    rw [hk] at hy
    obtain ⟨h1, h2, h3⟩ := kept_at hk
    injection hy with hy
    refine ⟨i, ch[i], List.getElem?_eq_getElem h1, h2, h3, ?_⟩
    rw [← hy]
    simp [h1]
structure LeftOf (l : List (List Int)) (ch : List S48) (M Q : Nat → Bool) (g : Int → Int) : Prop where
  sub : ∀ v, v < l.length → M v = true → Q v = true
  same : ∀ i, Q (l.length + i) = M (l.length + i)
  num : ∀ v : Nat, v < l.length + ch.length → M v = true → g (v : Int) = ((below25 Q v : Nat) : Int)
theorem LeftOf.below {g : Int → Int} (h : LeftOf l ch M Q g) (i : Nat) : below25 Q (l.length + i) = (pickN [] l ((List.range l.length).filter Q)).length + below25 (fun i => M (l.length + i)) i := by
  rw [below25_add]
  have : (pickN [] l ((List.range l.length).filter Q)).length = below25 Q l.length := by unfold pickN below25; rw [List.length_map]
  rw [this]
  congr 1
  exact below25_congr fun u _ => h.same u
end
theorem ix25 {α : Type} (p : α → Bool) : ∀ (l : List α) (i : Nat), (ixOf p l (i : Int) = -1 ∧ ∀ x ∈ l, p x = false) ∨ ∃ (a : Nat) (x : α), ixOf p l (i : Int) = ((i + a : Nat) : Int) ∧ l[a]? = some x ∧ p x = true ∧ ∀ (b : Nat) (y : α), b < a → l[b]? = some y → p y = false
  | [], i => .inl ⟨rfl, fun x hx => by cases hx⟩
  | z :: l, i => by
    unfold ixOf
    by_cases h : p z = true
    · rw [if_pos h]
      exact .inr ⟨0, z, rfl, rfl, h, fun b y hb => absurd hb (Nat.not_lt_zero _)⟩
    · rw [if_neg h, show ((i : Int) + 1) = ((i + 1 : Nat) : Int) by omega]
      rcases ix25 p l (i + 1) with ⟨e, k⟩ | ⟨a, x, e, hx, hp, k⟩
      · refine .inl ⟨e, fun x hx => ?_⟩
        rcases List.mem_cons.1 hx with q | hx
        · rw [q]; exact Bool.eq_false_iff.2 h
        · exact k x hx
      · refine .inr ⟨a + 1, x, by rw [e]; omega, hx, hp, fun b y hb hy => ?_⟩
        cases b with
        | zero => simp at hy; rw [← hy]; exact Bool.eq_false_iff.2 h
        | succ b => exact k b y (by omega) (by simpa using hy)
theorem filter_one {a n : Nat} (h : a < n) : (List.range n).filter (fun v => decide (v = a)) = [a] := by
  have hl : ((List.range n).filter (fun v => decide (v = a))).length = 1 := by
    have : ∀ n, ((List.range n).filter (fun v => decide (v = a))).length = if a < n then 1 else 0 := by
      intro n
      induction n with
      | zero => rfl
      | succ n ih =>
        rw [List.range_succ, List.filter_append, List.length_append, ih]
        by_cases e : n = a
        · subst e; simp
        · rw [List.filter_cons_of_neg (by simpa using e)]
          simp
          by_cases h1 : a < n
          · rw [if_pos h1, if_pos (by omega)]
          · rw [if_neg h1, if_neg (by omega)]
    rw [this, if_pos h]
  obtain ⟨b, hb⟩ := List.length_eq_one_iff.1 hl
  have hm : a ∈ (List.range n).filter (fun v => decide (v = a)) := List.mem_filter.2 ⟨List.mem_range.2 h, by simp⟩
  rw [hb] at hm ⊢
  rw [List.mem_singleton.1 hm]
theorem filter_none {P : Nat → Bool} {n : Nat} (h : ∀ v, v < n → P v = false) : (List.range n).filter P = [] :=
  List.filter_eq_nil_iff.2 fun v hv => by rw [h v (List.mem_range.1 hv)]; decide
theorem need_tells (n : Int) (l : List (List Int)) (ch : List S48) (hR : Tells (fun k => chain_Refutes.f k n l ch) (refutesL n l ch)) (h : (refutesL n l ch).2 = 0) (hl : l.length < 549755813888) :
    ∃ M, NeedsOf l ch M ∧ Tells (fun k => core_need.f k n l ch) (nums25 M l.length, nums25 (fun i => M (l.length + i)) ch.length, 0) := by
  have hdn := refutes_down h
  obtain ⟨_, hc, _, he⟩ := refutes_ok h
  unfold core_need.f
  rcases ix25 nilL l 0 with ⟨e, k⟩ | ⟨a, x, e, hx, hp, k⟩
  · rcases ix25 endsE ch 0 with ⟨e2, k2⟩ | ⟨i0, y, e2, hy, hp2, k2⟩
    · exfalso
      rcases endsL_iff.1 he with q | ⟨x, hx, q⟩
      · have := k _ q
        rw [nilL_iff.2 rfl] at this; cases this
      · have := k2 x hx
        rw [show endsE x = true from nilL_iff.2 q] at this; cases this
    · have hi0 := (List.getElem?_eq_some_iff.1 hy).1
      rw [Nat.zero_add] at e2
      obtain ⟨s, hs, hI, hL⟩ := mark_least (fs := ch.map (·.f1)) hdn (by rw [List.length_map]; omega) (root := ((l.length + i0 : Nat) : Int)) (by omega) (by rw [List.length_map]; omega) (m := l.length + ch.length) (by rw [List.length_map]; exact Nat.le_refl _)
      refine ⟨fun v => decide ((v : Int) ∈ s), .inr ⟨fun c hc hn => ?_, i0, y, hy, nilL_iff.1 hp2, fun j z hj hz hn => ?_, fun v hv => ?_, ?_⟩, ?_⟩
      · have := k c hc
        rw [nilL_iff.2 hn] at this; cases this
      · have := k2 j z hj hz
        rw [show endsE z = true from nilL_iff.2 hn] at this; cases this
      · have := hI.ran _ (of_decide_eq_true hv)
        rw [List.length_map] at this; omega
      · have hpos : ∀ y : Int, (0 ≤ y ∧ decide (((y.toNat : Nat) : Int) ∈ s) = true) ↔ y ∈ s := fun y => by
          rw [decide_eq_true_eq]
          constructor
          · rintro ⟨h0, hm⟩; rwa [show ((y.toNat : Nat) : Int) = y by omega] at hm
          · intro hm
            have := (hI.ran y hm).1
            exact ⟨this, by rwa [show ((y.toNat : Nat) : Int) = y by omega]⟩
        rw [show (fun y : Int => 0 ≤ y ∧ decide (((y.toNat : Nat) : Int) ∈ s) = true) = (· ∈ s) from funext fun y => propext (hpos y)]
        exact hL
      · refine Tells.bind hR (Tells.pos h (Tells.neg (show ¬ 0 ≤ ixOf nilL l 0 by have : ixOf nilL l 0 = -1 := e; omega) (Tells.pos (show 0 ≤ ixOf endsE ch 0 ∧ l.length + ch.length < 1099511627776 from ⟨by have : ixOf endsE ch 0 = (i0 : Int) := e2; omega, by omega⟩) ?_)))
        refine Tells.bind (v := s) ⟨l.length + ch.length, fun k hk => ?_⟩ (Tells.const _)
        have e3 : ixOf endsE ch 0 = (i0 : Int) := e2
        rw [e3, show ((l.length : Int) + (i0 : Int)) = ((l.length + i0 : Nat) : Int) by omega]
        obtain ⟨d, rfl⟩ := Nat.le.dest hk
        clear hk
        induction d with
        | zero => exact hs
        | succ d ih => exact markP_mono _ _ _ _ _ _ ih
  · have ha := (List.getElem?_eq_some_iff.1 hx).1
    have hx0 := nilL_iff.1 hp
    subst hx0
    rw [Nat.zero_add] at e
    have e1 : ixOf nilL l 0 = (a : Int) := e
    refine ⟨fun v => decide (v = a), .inl ⟨a, hx, fun b hb hn => ?_, fun v => rfl⟩, ?_⟩
    · have := k b [] hb hn
      rw [nilL_iff.2 rfl] at this; cases this
    · refine Tells.bind hR (Tells.pos h (Tells.pos (by omega) ?_))
      have c1 : nums25 (fun v => decide (v = a)) l.length = [(a : Int)] := by unfold nums25; rw [filter_one ha]; rfl
      have c2 : nums25 (fun i => decide (l.length + i = a)) ch.length = [] := by unfold nums25; rw [filter_none (P := fun i => decide (l.length + i = a)) (fun v _ => decide_eq_false (by omega))]; rfl
      rw [c1, c2, e1]
      exact Tells.const _
end Go.Proofs.Ytppkeonhbkahmaa.Pu
namespace Go.Proofs.Ytppkeonhbkahmaa.Open
open Go.RowKit Go.Proofs.YtppkeonhbkahmaaW.PrintWords Go.Proofs.YtppkeonhbkahmaaW.PrintLast Go.Proofs.YtppkeonhbkahmaaW.PrintMore Go.ChangeShapes Go.WideShapes Go.Deep
def Opens (P : Program) (t : TypeId) {α : Type} (d : Kd α) (good : α → Prop) : Prop :=
  ∀ {H : Type} (enc : TypeId × Value → H) (w : World) (fuel : Nat) (cs : List Value) (x : DataW H × List MemPlace),
    DataW.trod enc P w 0 (fun _ => true) true fuel t cs = some x → (∀ n ∈ DataW.weights P t x.1, n ≤ 140737488351232) → ∃ a, Kd.FK d w (fun _ => True) a cs ∧ good a
def Row (B : Nat) {α : Type} (good : α → Prop) (xs : List α) : Prop := xs.length * B ≤ 140737488351232 ∧ ∀ x ∈ xs, good x
def I64 (n : Int) : Prop := (Lit.int .i64 n).wf = true
variable {P : Program}
theorem cell_same {w W' : World} (hW : ∀ k, (fun _ => True) k → k < w.heap.size → W'.heap[k]? = w.heap[k]?) {p : Addr} {u : Value} (h : w.cell? p = some u) : W'.cell? p = some u := by
  have hlt : p.block < w.heap.size := by
    rcases Nat.lt_or_ge p.block w.heap.size with h1 | h1
    · exact h1
    · simp [World.cell?, Array.getElem?_eq_none h1] at h
  have hb : W'.heap[p.block]? = w.heap[p.block]? := hW _ trivial hlt
  unfold World.cell? at h ⊢
  rw [hb]; exact h
theorem int_ {t : TypeId} {k : IntKind} (ht : P.underlying t = some (.int k)) : Opens P t (Kd.int k) (fun n => (Lit.int k n).wf = true) := by
  intro H enc w fuel cs x h _
  obtain ⟨n, rfl, hx, hw⟩ := DataW.trod_int ht h
  exact ⟨n, fun _ _ => rfl, hw⟩
theorem mem_weightsAll {H : Type} {e : TypeId} {n : Nat} : ∀ {l : List (DataW H)} {d : DataW H}, d ∈ l → n ∈ DataW.weights P e d → n ∈ DataW.weightsAll P e l
  | [], _, h, _ => by cases h
  | y :: l, d, h, hn => by
    rw [DataW.weightsAll]
    rcases List.mem_cons.1 h with rfl | h
    · exact List.mem_append_left _ hn
    · exact List.mem_append_right _ (mem_weightsAll h hn)
theorem slice_ {t e : TypeId} {α : Type} {d : Kd α} {good : α → Prop} {B : Nat} (ht : P.underlying t = some (.slice e)) (hd : P.cellsOf e = d.sz) (hB : P.bytesOf e = B) (hB0 : 0 < B) (he : Opens P e d good) :
    Opens P t (Kd.slice e d) (Row B good) := by
  intro H enc w fuel cs x h hx
  rcases open_slice ht h with ⟨rfl, rfl⟩ | ⟨a, len, cap, m, n, D, Pl, rfl, _, hl, hm, hmm, rfl, hel⟩
  · exact ⟨[], fun _ _ => ⟨none, 0, rfl, Nat.le_refl _, rfl, Nat.zero_le _, fun h => absurd h (Nat.lt_irrefl 0)⟩, by simp, fun x hx => by cases hx⟩
  · simp only [if_true] at hmm
    obtain rfl : m = cap := hmm
    rw [hd] at hel
    have hw : ∀ i, i < len → ∀ q ∈ DataW.weights P e (D i), q ≤ 140737488351232 := fun i hi q hq => by
      refine hx q ?_
      show q ∈ DataW.weights P t (DataW.slice _ _)
      rw [DataW.weights, ht]
      exact List.mem_cons_of_mem _ (List.mem_append_left _ (mem_weightsAll (List.mem_map.2 ⟨i, List.mem_range.2 hi, rfl⟩) hq))
    have hlen : len * B ≤ 140737488351232 := by
      have := hx ((len + (m - len)) * B) (by
        show _ ∈ DataW.weights P t (DataW.slice _ _)
        rw [DataW.weights, ht]
        simp [hB])
      exact Nat.le_trans (Nat.mul_le_mul_right _ (by omega)) this
    have hlt : len ≤ 140737488351232 := Nat.le_trans (Nat.le_mul_of_pos_right _ hB0) hlen
    have each : ∀ i, i < len → ∃ y, (∃ cs', w.cells? 0 (a.add (i * d.sz)) d.sz = some cs' ∧ Kd.FK d w (fun _ => True) y cs') ∧ good y := fun i hi => by
      obtain ⟨cs', h1, h2⟩ := hel i (by omega)
      obtain ⟨y, hy, hg⟩ := he enc w n cs' (D i, Pl i) h2 (hw i hi)
      exact ⟨y, ⟨cs', h1, hy⟩, hg⟩
    have : ∃ xs : List α, xs.length = len ∧ ∀ i y, xs[i]? = some y → (∃ cs', w.cells? 0 (a.add (i * d.sz)) d.sz = some cs' ∧ Kd.FK d w (fun _ => True) y cs') ∧ good y := by
      clear hw hlen hlt hel hx h
      clear hl
      induction len with
      | zero => exact ⟨[], rfl, fun i y h => by simp at h⟩
      | succ j ih =>
        obtain ⟨xs, hxs, hk⟩ := ih (fun i hi => each i (by omega))
        obtain ⟨y, hy⟩ := each j (by omega)
        refine ⟨xs ++ [y], by simp [hxs], fun i z hz => ?_⟩
        rcases Nat.lt_or_ge i xs.length with hi | hi
        · rw [List.getElem?_append_left hi] at hz; exact hk i z hz
        · rw [List.getElem?_append_right hi] at hz
          have : i - xs.length = 0 := by
            rcases Nat.eq_zero_or_pos (i - xs.length) with h0 | h0
            · exact h0
            · rw [List.getElem?_eq_none (by simp; omega)] at hz; cases hz
          rw [this] at hz
          simp at hz
          subst hz
          obtain rfl : i = j := by omega
          exact hy
    obtain ⟨xs, hxs, hk⟩ := this
    refine ⟨xs, fun W' hW => ⟨some a, m, by rw [hxs], by omega, ⟨rfl, by omega, fun _ => ⟨a, rfl, fun j p hj => ?_⟩⟩⟩, by rw [hxs]; exact hlen, fun y hy => ?_⟩
    · obtain ⟨⟨cs', h1, h2⟩, _⟩ := hk j p hj
      obtain ⟨_, h3, h4⟩ := World.cells?_some h1
      refine ⟨cs', h3, h2 W' hW, fun i u hu => ?_⟩
      have hi : i < d.sz := by rw [← h3]; exact (List.getElem?_eq_some_iff.1 hu).1
      have hc := h4 i hi
      rw [hu] at hc
      rw [Addr.add_add] at hc
      exact cell_same hW hc
    · obtain ⟨i, hi, rfl⟩ := List.getElem_of_mem hy
      exact (hk i _ (List.getElem?_eq_getElem hi)).2
theorem struct2_ {t : TypeId} {f0 f1 : Field} {α β : Type} {d0 : Kd α} {d1 : Kd β} {g0 : α → Prop} {g1 : β → Prop} (ht : P.underlying t = some (.struct #[f0, f1])) (h0 : f0.offset = 0) (c0 : P.cellsOf f0.type = d0.sz) (h1 : f1.offset = d0.sz) (c1 : P.cellsOf f1.type = d1.sz) (hc : P.cellsOf t = d0.sz + d1.sz)
    (o0 : Opens P f0.type d0 g0) (o1 : Opens P f1.type d1 g1) : Opens P t (Kd.pair d0 d1) (fun x => g0 x.1 ∧ g1 x.2) := by
  intro H enc w fuel cs x h hx
  obtain ⟨y0, y1, n, rfl, hl, t0, t1⟩ := trod_struct2 ht h
  have hw : ∀ (j : Nat) (f : Field) (q : DataW H), (#[f0, f1] : Array Field).toList[j]? = some f → [y0.1, y1.1][j]? = some q → ∀ m ∈ DataW.weights P f.type q, m ≤ 140737488351232 := fun j f q hf hq m hm => by
    refine hx m ?_
    show m ∈ DataW.weights P t (.agg [y0.1, y1.1])
    rw [DataW.weights, ht]
    exact DataW.weights_mem_each (ts := (#[f0, f1] : Array Field).toList.map (·.type)) (by rw [List.getElem?_map, hf]; rfl) hq m hm
  obtain ⟨a, ha, ga⟩ := o0 enc w n _ y0 t0 (hw 0 f0 y0.1 rfl rfl)
  obtain ⟨b, hb, gb⟩ := o1 enc w n _ y1 t1 (hw 1 f1 y1.1 rfl rfl)
  refine ⟨(a, b), fun W' hW => ⟨_, _, ?_, ha W' hW, hb W' hW⟩, ga, gb⟩
  rw [h0, c0, h1, c1, List.drop_zero, List.take_of_length_le (l := cs.drop d0.sz) (by rw [List.length_drop]; omega), List.take_append_drop]
theorem iso_ {t : TypeId} {α β : Type} {d : Kd α} {good : α → Prop} (f : β → α) (g : α → β) (hfg : ∀ a, f (g a) = a) (o : Opens P t d good) : Opens P t (Kd.iso d f) (fun x => good (f x)) := by
  intro H enc w fuel cs x h hx
  obtain ⟨a, ha, ga⟩ := o enc w fuel cs x h hx
  exact ⟨g a, fun W' hW => by show d.K W' (f (g a)) cs; rw [hfg]; exact ha W' hW, by show good (f (g a)); rw [hfg]; exact ga⟩
theorem slice_arg {H : Type} {enc : TypeId × Value → H} {w : World} {t e : TypeId} {α : Type} {d : Kd α} {good : List α → Prop} (ho : Opens P t (Kd.slice e d) good) {A : Option Addr} {len cap : Nat} {x : DataW H} {p : List MemPlace}
    (h : DataW.Trod enc P w 0 (fun _ => true) true t (.slice A len cap) x p) (hx : ∀ n ∈ DataW.weights P t x, n ≤ 140737488351232) :
    ∃ l : List α, len = l.length ∧ Kd.F d w (fun _ => True) A l.length l ∧ l.length ≤ cap ∧ good l := by
  obtain ⟨fuel, hf⟩ := h
  obtain ⟨l, hF, hg⟩ := ho enc w fuel _ _ hf hx
  obtain ⟨A', c, hcs, hl, hc⟩ := Kd.FK_slice_open hF
  simp [Value.cells] at hcs
  obtain ⟨rfl, rfl, rfl⟩ := hcs
  exact ⟨l, rfl, hc, hl, hg⟩
theorem slice_field {H : Type} {enc : TypeId × Value → H} {w : World} {t e : TypeId} {α : Type} {d : Kd α} {good : List α → Prop} (ho : Opens P t (Kd.slice e d) good) {v : Value} {n : Nat} {x : DataW H × List MemPlace}
    (h : DataW.trod enc P w 0 (fun _ => true) true n t [v] = some x) (hx : ∀ n ∈ DataW.weights P t x.1, n ≤ 140737488351232) :
    ∃ (A : Option Addr) (c : Nat) (l : List α), v = .slice A l.length c ∧ Kd.F d w (fun _ => True) A l.length l ∧ l.length ≤ c ∧ good l := by
  obtain ⟨l, hF, hg⟩ := ho enc w n _ _ h hx
  obtain ⟨A', c, hcs, hl, hc⟩ := Kd.FK_slice_open hF
  simp at hcs
  exact ⟨A', c, l, hcs, hc, hl, hg⟩
theorem int_field {H : Type} {enc : TypeId × Value → H} {w : World} {t : TypeId} {k : IntKind} (ht : P.underlying t = some (.int k)) {v : Value} {n : Nat} {x : DataW H × List MemPlace}
    (h : DataW.trod enc P w 0 (fun _ => true) true n t [v] = some x) : ∃ a : Int, v = .int k a ∧ (Lit.int k a).wf = true := by
  obtain ⟨a, hcs, _, hw⟩ := DataW.trod_int ht h
  simp at hcs
  exact ⟨a, hcs, hw⟩
theorem at_ {H : Type} {ts : List TypeId} {ds : List (DataW H)} (h : (DataW.weightsEach P ts ds).all (· ≤ reachBytes) = true) {j : Nat} {t : TypeId} {d : DataW H} (ht : ts[j]? = some t) (hd : ds[j]? = some d) :
    ∀ n ∈ DataW.weights P t d, n ≤ 140737488351232 := fun n hn => by
  have := List.all_eq_true.1 h _ (DataW.weights_mem_each ht hd n hn)
  exact of_decide_eq_true this
theorem fields {H : Type} {t : TypeId} {fs : Array Field} {ds : List (DataW H)} (ht : P.underlying t = some (.struct fs)) (hx : ∀ n ∈ DataW.weights P t (.agg ds), n ≤ 140737488351232) {j : Nat} {f : Field} {d : DataW H} (hf : fs.toList[j]? = some f) (hd : ds[j]? = some d) :
    ∀ n ∈ DataW.weights P f.type d, n ≤ 140737488351232 := fun n hn => by
  refine hx n ?_
  rw [DataW.weights, ht]
  exact DataW.weights_mem_each (ts := fs.toList.map (·.type)) (by simp [hf]) hd n hn
end Go.Proofs.Ytppkeonhbkahmaa.Open
namespace Go.Proofs.Ytppkeonhbkahmaa.Pu
open Go.RowKit Go.Proofs.Ytppkeonhbkahmaa.P Go.Proofs.YtppkeonhbkahmaaW.PrintWords Go.Proofs.YtppkeonhbkahmaaW.PrintLast Go.Proofs.YtppkeonhbkahmaaW.PrintMore
theorem rows64 {l : List (List Int)} (h : Open.Row 24 (Open.Row 8 fun n => (Lit.int .i64 n).wf = true) l) : Rows64 l :=
  ⟨by have := h.1; omega, fun c hc => ⟨by have := (h.2 c hc).1; omega, (h.2 c hc).2⟩⟩
def Chains64 (l : List S48) : Prop := l.length < 4611686018427387904 ∧ ∀ x ∈ l, (x.f0.length < 4611686018427387904 ∧ ∀ y ∈ x.f0, I64 y) ∧ (x.f1.length < 4611686018427387904 ∧ ∀ y ∈ x.f1, I64 y)
theorem chains64 {l : List S48} (h : Open.Row 48 (fun x : S48 => Open.Row 8 (fun n => (Lit.int .i64 n).wf = true) x.f0 ∧ Open.Row 8 (fun n => (Lit.int .i64 n).wf = true) x.f1) l) : Chains64 l :=
  ⟨by have := h.1; omega, fun x hx => ⟨⟨by have := (h.2 x hx).1.1; omega, (h.2 x hx).1.2⟩, ⟨by have := (h.2 x hx).2.1; omega, (h.2 x hx).2.2⟩⟩⟩
theorem rdC25_at (xs : List S48) (i : Nat) (h : i < xs.length) : rd_T48 xs (i : Int) = xs[i] := by simp [rd_T48, h]
theorem s25_l1 (ch : List S48) (hc : Chains64 ch) (hb : ∀ x ∈ ch, x.f0.length < 1099511627776000 ∧ x.f1.length < 1099511627776000) : ∀ (m i : Nat), m + i = ch.length → ∀ a : Int, 0 ≤ a → a < 4611686018427387904 →
    ∃ s, Tells (fun k => sequiturlaw25_Small.l1 k ch a (i : Int)) s ∧ (s = true → a ≤ 2000 ∧ ∀ x ∈ ch.drop i, x.f0.length ≤ 2000 ∧ x.f1.length ≤ 2000)
  | 0, i, h => by
    intro a h0 h1
    refine ⟨decide (a ≤ 2000), Tells.succ (fun k => by rw [sequiturlaw25_Small.l1]) (Tells.neg (by omega) (Tells.const _)), fun hs => ⟨of_decide_eq_true hs, fun x hx => ?_⟩⟩
    rw [List.drop_of_length_le (by omega)] at hx; cases hx
  | m + 1, i, h => by
    intro a h0 h1
    have hi : i < ch.length := by omega
    have hl := hc.1
    by_cases ha : a ≤ 2000
    · have hx := hb _ (List.getElem_mem hi)
      obtain ⟨s, hs, hr⟩ := s25_l1 ch hc hb m (i + 1) (by omega) (a + ((ch[i].f0.length : Int) + (ch[i].f1.length : Int))) (by omega) (by omega)
      refine ⟨s, Tells.succ (fun k => by rw [sequiturlaw25_Small.l1]) (Tells.pos (by omega) (Tells.pos ha (Tells.pos (by omega) ?_))), fun h => ?_⟩
      · rw [rdC25_at _ _ hi, w64s hi hl, show wrap64 ((ch[i].f0.length : Int) + (ch[i].f1.length : Int)) = (ch[i].f0.length : Int) + (ch[i].f1.length : Int) from w64 (by omega) (by omega), w64 (by omega) (by omega)]
        exact hs
      · obtain ⟨k1, k2⟩ := hr h
        refine ⟨ha, fun x hx => ?_⟩
        rw [List.drop_eq_getElem_cons hi] at hx
        rcases List.mem_cons.1 hx with rfl | hx
        · omega
        · exact k2 x hx
    · exact ⟨decide (a ≤ 2000), Tells.succ (fun k => by rw [sequiturlaw25_Small.l1]) (Tells.pos (by omega) (Tells.neg ha (Tells.const _))), fun hs => absurd (of_decide_eq_true hs) ha⟩
theorem s25_j1 (ch : List S48) (hc : Chains64 ch) (hb : ∀ x ∈ ch, x.f0.length < 1099511627776000 ∧ x.f1.length < 1099511627776000) (a : Int) (h0 : 0 ≤ a) (h1 : a < 4611686018427387904) :
    ∃ s, Tells (fun k => sequiturlaw25_Small.j1 k ch a) s ∧ (s = true → a ≤ 2000 ∧ ∀ x ∈ ch, x.f0.length ≤ 2000 ∧ x.f1.length ≤ 2000) := by
  obtain ⟨s, hs, hr⟩ := s25_l1 ch hc hb ch.length 0 rfl a h0 h1
  exact ⟨s, Tells.succ (fun k => by rw [sequiturlaw25_Small.j1]; rfl) hs, hr⟩
theorem s25_l0 (n : Int) (l : List (List Int)) (hl : Rows64 l) (ch : List S48) (hc : Chains64 ch) (hb : ∀ x ∈ ch, x.f0.length < 1099511627776000 ∧ x.f1.length < 1099511627776000) (hlb : ∀ c ∈ l, c.length < 1099511627776000) : ∀ (m i : Nat), m + i = l.length → ∀ a : Int, 0 ≤ a → a < 4611686018427387904 →
    ∃ s, Tells (fun k => sequiturlaw25_Small.l0 k ch a (i : Int) n l) s ∧ (s = true → a ≤ 2000 ∧ (∀ x ∈ ch, x.f0.length ≤ 2000 ∧ x.f1.length ≤ 2000) ∧ ∀ c ∈ l.drop i, c.length ≤ 2000)
  | 0, i, h => by
    intro a h0 h1
    obtain ⟨s, hs, hr⟩ := s25_j1 ch hc hb a h0 h1
    refine ⟨s, Tells.succ (fun k => by rw [sequiturlaw25_Small.l0]) (Tells.neg (by omega) hs), fun h => ⟨(hr h).1, (hr h).2, fun x hx => ?_⟩⟩
    rw [List.drop_of_length_le (by omega)] at hx; cases hx
  | m + 1, i, h => by
    intro a h0 h1
    have hi : i < l.length := by omega
    by_cases ha : a ≤ 2000
    · have hx := hlb _ (List.getElem_mem hi)
      obtain ⟨s, hs, hr⟩ := s25_l0 n l hl ch hc hb hlb m (i + 1) (by omega) (a + (l[i].length : Int)) (by omega) (by omega)
      refine ⟨s, Tells.succ (fun k => by rw [sequiturlaw25_Small.l0]) (Tells.pos (by omega) (Tells.pos ha (Tells.pos (by omega) ?_))), fun h => ?_⟩
      · rw [rdL_at _ _ hi, w64s hi hl.1, w64 (by omega) (by omega)]
        exact hs
      · obtain ⟨k1, k2, k3⟩ := hr h
        refine ⟨ha, k2, fun x hx => ?_⟩
        rw [List.drop_eq_getElem_cons hi] at hx
        rcases List.mem_cons.1 hx with rfl | hx
        · omega
        · exact k3 x hx
    · obtain ⟨s, hs, hr⟩ := s25_j1 ch hc hb a h0 h1
      exact ⟨s, Tells.succ (fun k => by rw [sequiturlaw25_Small.l0]) (Tells.pos (by omega) (Tells.neg ha hs)), fun h => absurd (hr h).1 ha⟩
structure Tiny (l : List (List Int)) (ch : List S48) : Prop where
  all : l.length + ch.length ≤ 2000
  rows : ∀ c ∈ l, c.length ≤ 2000
  chs : ∀ x ∈ ch, x.f0.length ≤ 2000 ∧ x.f1.length ≤ 2000
theorem small25_tells (n : Int) (l : List (List Int)) (hl : Rows64 l) (ch : List S48) (hc : Chains64 ch) (hb : ∀ x ∈ ch, x.f0.length < 1099511627776000 ∧ x.f1.length < 1099511627776000) (hlb : ∀ c ∈ l, c.length < 1099511627776000) (hn1 : l.length < 1099511627776000) (hn2 : ch.length < 1099511627776000) :
    ∃ s, Tells (fun k => sequiturlaw25_Small.f k n l ch) s ∧ (s = true → Tiny l ch) := by
  obtain ⟨s, hs, hr⟩ := s25_l0 n l hl ch hc hb hlb l.length 0 rfl ((l.length : Int) + (ch.length : Int)) (by omega) (by omega)
  refine ⟨s, ?_, fun h => ⟨by have := (hr h).1; omega, (hr h).2.2, (hr h).2.1⟩⟩
  unfold sequiturlaw25_Small.f
  rw [w64 (by omega) (by omega)]
  exact hs
theorem goes25_at : sequiturlaw25_goes.f 80 = some true := by decide +kernel
theorem goes25 : Tells (fun k => sequiturlaw25_goes.f k) true := Tells.mono sequiturlaw25_goes.mono goes25_at
def Ids (n : Nat) (ids : List Int) : Prop := (∀ x ∈ ids, 0 ≤ x ∧ x < (n : Int)) ∧ ids.length ≤ n
theorem Tiny.fits {l : List (List Int)} {ch : List S48} (h : Tiny l ch) (hl : Rows64 l) (hc : Chains64 ch) : Fits 2000 2000 l ch :=
  ⟨fun c hm => ⟨h.rows c hm, (hl.2 c hm).2⟩, fun x hx => ⟨(h.chs x hx).1, (h.chs x hx).2, (hc.2 x hx).1.2⟩, by decide, by decide⟩
theorem nums25_ids (M : Nat → Bool) (n : Nat) : Ids n (nums25 M n) := by
  refine ⟨fun x hx => ?_, nums25_le M n⟩
  obtain ⟨v, hv, rfl⟩ := List.mem_map.1 hx
  have := List.mem_range.1 (List.mem_filter.1 hv).1
  omega
theorem used_tells (n : Int) (l : List (List Int)) (ch : List S48) (hn : I64 n) (hl : Rows64 l) (hf : Fits 2000 2000 l ch) (hs : l.length < 549755813888) :
    ((refutesL n l ch).2 ≠ 0 → Tells (fun k => core_need.f k n l ch) ([], [], (refutesL n l ch).2)) ∧ ((refutesL n l ch).2 = 0 → ∃ M, NeedsOf l ch M ∧ Tells (fun k => core_need.f k n l ch) (nums25 M l.length, nums25 (fun i => M (l.length + i)) ch.length, 0)) := by
  have hR := chain_Refutes_tells n l ch 2000 2000 hn hl hf
  refine ⟨fun h => ?_, fun h => need_tells n l ch hR h hs⟩
  unfold core_need.f
  exact Tells.bind hR (Tells.neg h (Tells.const _))
theorem byP_put (n first : Nat) : ∀ (ks : List Nat) (k : Nat) (G : Int → Option Int) (f : Nat → Nat), (∀ v : Nat, got25 G (v : Int) = ((f v : Nat) : Int)) →
    ∀ v : Nat, got25 (byP (n : Int) (first : Int) (ks.map fun i : Nat => (i : Int)) (k : Int) G) (v : Int) = ((putAll n first ks k f v : Nat) : Int)
  | [], k, G, f, h, v => h v
  | i :: t, k, G, f, h, v => by
    show got25 (byP (n : Int) (first : Int) (t.map fun i : Nat => (i : Int)) ((k : Int) + 1) _) (v : Int) = ((putAll n first t (k + 1) _ v : Nat) : Int)
    rw [show ((k : Int) + 1) = ((k + 1 : Nat) : Int) by omega]
    refine byP_put n first t (k + 1) _ _ (fun u => ?_) v
    unfold got25
    dsimp only
    by_cases e : u = n + i
    · rw [if_pos (show (u : Int) = (n : Int) + (i : Int) by omega), if_pos e]
      show (first : Int) + (k : Int) = _
      omega
    · rw [if_neg (show ¬ (u : Int) = (n : Int) + (i : Int) by omega), if_neg e]
      exact h u
theorem trim_num2 {M : Nat → Bool} {n L v : Nat} (hv : v < n + L) (hM : M v = true) :
    putAll n n ((List.range L).filter fun i => M (n + i)) 0 (fun v => if v < n then v else 0) v = below25 (fun u => M u || decide (u < n)) v := by
  by_cases h : v < n
  · rw [putAll_other _ _ _ _ _ _ (fun i _ => by omega), if_pos h]
    exact (below25_all (fun u hu => by simp; exact .inr (by omega))).symm
  · obtain ⟨i, rfl⟩ : ∃ i, v = n + i := ⟨v - n, by omega⟩
    rw [putAll_at n n _ 0 _ _ i (range_filter_nodup _ L) (kept_get (P := fun i => M (n + i)) (by omega) hM), below25_add, below25_all (v := n) (fun u hu => by simp; exact .inr hu)]
    rw [Nat.zero_add]
    congr 1
    exact below25_congr fun u _ => by rw [decide_eq_false (by omega), Bool.or_false]
section
variable {l : List (List Int)} {ch : List S48} {M : Nat → Bool}
theorem trim_left : LeftOf l ch M (fun u => M u || decide (u < l.length)) (got25 (byP (l.length : Int) (l.length : Int) (nums25 (fun i => M (l.length + i)) ch.length) 0 (idTo l.length))) := by
  refine ⟨fun v hv h => by rw [h, Bool.true_or], fun i => by rw [decide_eq_false (by omega), Bool.or_false], fun v hv h => ?_⟩
  have h1 := byP_put l.length l.length ((List.range ch.length).filter fun i => M (l.length + i)) 0 (idTo l.length) (fun v => if v < l.length then v else 0) (fun v => by
    unfold got25 idTo
    by_cases e : v < l.length
    · rw [if_pos (by omega), if_pos e]; rfl
    · rw [if_neg (by omega), if_neg e]; rfl) v
  rw [trim_num2 hv h] at h1
  exact h1
theorem of_left : LeftOf l ch M M (got25 (byP (l.length : Int) ((nums25 M l.length).length : Int) (nums25 (fun i => M (l.length + i)) ch.length) 0 (byP 0 0 (nums25 M l.length) 0 (fun _ => none)))) := by
  refine ⟨fun v hv h => h, fun i => rfl, fun v hv h => ?_⟩
  have h0 := byP_put 0 0 ((List.range l.length).filter M) 0 (fun _ => none) (fun _ => 0) (fun v => rfl)
  have h1 := byP_put l.length ((List.range l.length).filter M).length ((List.range ch.length).filter fun i => M (l.length + i)) 0 _ _ h0 v
  rw [of_num hv h] at h1
  have e : (nums25 M l.length).length = ((List.range l.length).filter M).length := by unfold nums25; rw [List.length_map]
  rw [e]
  exact h1
theorem numP_keepC (G : Int → Option Int) (P : Nat → Bool) (L : Nat) : numP ch G (nums25 P L) = keepC ch (got25 G) ((List.range L).filter P) := by
  unfold numP keepC nums25
  rw [List.map_map]
  rfl
end
section
variable {n : Int} {l : List (List Int)} {ch : List S48} {M : Nat → Bool}
def trimOf (l : List (List Int)) (ch : List S48) (M : Nat → Bool) : List S48 :=
  keepC ch (got25 (byP (l.length : Int) (l.length : Int) (nums25 (fun i => M (l.length + i)) ch.length) 0 (idTo l.length))) ((List.range ch.length).filter fun i => M (l.length + i))
def ofOf (l : List (List Int)) (ch : List S48) (M : Nat → Bool) : List S48 :=
  keepC ch (got25 (byP (l.length : Int) ((nums25 M l.length).length : Int) (nums25 (fun i => M (l.length + i)) ch.length) 0 (byP 0 0 (nums25 M l.length) 0 (fun _ => none)))) ((List.range ch.length).filter fun i => M (l.length + i))
theorem fit_ok (hf : Fits 2000 2000 l ch) (hs : l.length < 549755813888) (h : (refutesL n l ch).2 = 0) (P : Nat → Bool) : fit25 l.length ch (nums25 P ch.length) := by
  have h1 := (refutes_ok h).2.1
  have h2 := nums25_le P ch.length
  have hd := refutes_down h
  refine ⟨hs, by omega, by omega, fun i hi => (nums25_ids P ch.length).1 i hi, fun x hx => ?_⟩
  obtain ⟨i, hi⟩ := List.mem_iff_getElem?.1 hx
  have hil := (List.getElem?_eq_some_iff.1 hi).1
  have h3 := hf.ch x hx
  refine ⟨by omega, by omega, fun y hy => ?_⟩
  have := hd i x.f1 (by rw [List.getElem?_map, hi]; rfl) y hy
  exact i64_wf25 this.1 (by omega)
theorem fitC_ok (hf : Fits 2000 2000 l ch) (hs : l.length < 549755813888) (P : Nat → Bool) : fitC25 l (nums25 P l.length) := by
  have h2 := nums25_le P l.length
  exact ⟨by omega, fun i hi => (nums25_ids P l.length).1 i hi, fun x hx => by have := (hf.cs x hx).1; omega⟩
theorem keepC_fits {l' : List (List Int)} (hf : Fits 2000 2000 l ch) (hl : ∀ c ∈ l', c ∈ l) (g : Int → Int) (P : Nat → Bool) : Fits 2000 2000 l' (keepC ch g ((List.range ch.length).filter P)) := by
  refine ⟨fun c hc => hf.cs c (hl c hc), fun x hx => ?_, by decide, by decide⟩
  obtain ⟨j, hj⟩ := List.mem_iff_getElem?.1 hx
  obtain ⟨i, y, hy, _, _, rfl⟩ := keepC_at hj
  have := hf.ch y (List.mem_iff_getElem?.2 ⟨i, hy⟩)
  exact ⟨this.1, by rw [List.length_map]; exact this.2.1, this.2.2⟩
theorem pickN_sub (P : Nat → Bool) : ∀ c ∈ pickN [] l ((List.range l.length).filter P), c ∈ l := fun c hc => by
  obtain ⟨v, _, _, hv⟩ := pickN_mem hc
  exact List.mem_iff_getElem?.2 ⟨v, hv⟩
theorem rowsOf_nums (P : Nat → Bool) : rowsOf l (nums25 P l.length) = pickN [] l ((List.range l.length).filter P) := by
  unfold rowsOf nums25 pickN
  rw [List.map_map]; rfl
theorem trim_tells (hn : I64 n) (hl : Rows64 l) (hf : Fits 2000 2000 l ch) (hs : l.length < 549755813888) :
    ((refutesL n l ch).2 ≠ 0 → Tells (fun k => core_Trim.f k n l ch) ([], (refutesL n l ch).2)) ∧ ((refutesL n l ch).2 = 0 → ∃ M, NeedsOf l ch M ∧ Tells (fun k => core_Trim.f k n l ch) (trimOf l ch M, 0)) := by
  obtain ⟨k1, k2⟩ := used_tells n l ch hn hl hf hs
  unfold core_Trim.f
  refine ⟨fun h => Tells.bind (k1 h) (Tells.neg h (Tells.const _)), fun h => ?_⟩
  obtain ⟨M, hN, hM⟩ := k2 h
  refine ⟨M, hN, Tells.bind hM (Tells.pos rfl (Tells.pos (fit_ok hf hs h _) ?_))⟩
  rw [show numP ch (byP (l.length : Int) (l.length : Int) (nums25 (fun i => M (l.length + i)) ch.length) 0 (idTo l.length)) (nums25 (fun i => M (l.length + i)) ch.length) = trimOf l ch M from numP_keepC _ _ _]
  exact Tells.const _
theorem of_tells (hn : I64 n) (hl : Rows64 l) (hf : Fits 2000 2000 l ch) (hs : l.length < 549755813888) :
    ((refutesL n l ch).2 ≠ 0 → Tells (fun k => core_Of.f k n l ch) (0, [], [], (refutesL n l ch).2)) ∧ ((refutesL n l ch).2 = 0 → ∃ M, NeedsOf l ch M ∧ Tells (fun k => core_Of.f k n l ch) (n, pickN [] l ((List.range l.length).filter M), ofOf l ch M, 0)) := by
  obtain ⟨k1, k2⟩ := used_tells n l ch hn hl hf hs
  unfold core_Of.f
  refine ⟨fun h => Tells.bind (k1 h) (Tells.neg h (Tells.const _)), fun h => ?_⟩
  obtain ⟨M, hN, hM⟩ := k2 h
  refine ⟨M, hN, Tells.bind hM (Tells.pos rfl (Tells.pos ⟨fit_ok hf hs h _, fitC_ok hf hs _⟩ ?_))⟩
  rw [show numP ch (byP (l.length : Int) ((nums25 M l.length).length : Int) (nums25 (fun i => M (l.length + i)) ch.length) 0 (byP 0 0 (nums25 M l.length) 0 none25)) (nums25 (fun i => M (l.length + i)) ch.length) = ofOf l ch M from numP_keepC _ _ _, rowsOf_nums]
  exact Tells.const _
end
theorem Ints_same (a : List Int) (h : a.length < 4611686018427387904) : Tells (fun k => sequiturbase_Ints.f k a a) true := by
  have := Ints_tells a a h
  rwa [beq_self_eq_true] at this
theorem Chain_same (x : S48) (h0 : x.f0.length < 4611686018427387904) (h1 : x.f1.length < 4611686018427387904) : Tells (fun k => sequiturbase_Chain.f k x.f0 x.f1 x.f0 x.f1) true := by
  unfold sequiturbase_Chain.f
  exact Tells.bind (Ints_same _ h0) (Tells.pos rfl (Tells.bind (Ints_same _ h1) (Tells.const _)))
theorem Chains_loop (a : List S48) (hs : a.length < 4611686018427387904) (ha : ∀ x ∈ a, x.f0.length < 4611686018427387904 ∧ x.f1.length < 4611686018427387904) : ∀ (n i : Nat), n + i = a.length → Tells (fun k => sequiturbase_Chains.l0 k a a (i : Int)) true
  | 0, i, h => Tells.succ (fun k => by rw [sequiturbase_Chains.l0]) (Tells.neg (by omega) (Tells.const _))
  | n + 1, i, h => by
    have hi : i < a.length := by omega
    obtain ⟨h0, h1⟩ := ha _ (List.getElem_mem hi)
    refine Tells.succ (fun k => by rw [sequiturbase_Chains.l0]) (Tells.pos (by omega) (Tells.pos (by omega) (Tells.pos (by omega) ?_)))
    rw [rdC25_at _ _ hi, w64s hi hs]
    exact Tells.bind (Chain_same _ h0 h1) (Tells.pos rfl (Chains_loop a hs ha n (i + 1) (by omega)))
theorem Chains_same (a : List S48) (hs : a.length < 4611686018427387904) (ha : ∀ x ∈ a, x.f0.length < 4611686018427387904 ∧ x.f1.length < 4611686018427387904) : Tells (fun k => sequiturbase_Chains.f k a a) true := by
  unfold sequiturbase_Chains.f
  exact Tells.pos rfl (Chains_loop a hs ha a.length 0 rfl)
theorem Lits_loop25 (a : List (List Int)) (hs : a.length < 4611686018427387904) (ha : ∀ x ∈ a, x.length < 4611686018427387904) : ∀ (n i : Nat), n + i = a.length → Tells (fun k => sequiturbase_Lits.l0 k a a (i : Int)) true
  | 0, i, h => Tells.succ (fun k => by rw [sequiturbase_Lits.l0]) (Tells.neg (by omega) (Tells.const _))
  | n + 1, i, h => by
    have hi : i < a.length := by omega
    have h0 := ha _ (List.getElem_mem hi)
    refine Tells.succ (fun k => by rw [sequiturbase_Lits.l0]) (Tells.pos (by omega) (Tells.pos (by omega) (Tells.pos (by omega) ?_)))
    rw [rdL_at _ _ hi, w64s hi hs]
    exact Tells.bind (Ints_same _ h0) (Tells.pos rfl (Lits_loop25 a hs ha n (i + 1) (by omega)))
theorem Cnf_same (m : Int) (a : List (List Int)) (hs : a.length < 4611686018427387904) (ha : ∀ x ∈ a, x.length < 4611686018427387904) : Tells (fun k => sequiturbase_Cnf.f k m a m a) true := by
  unfold sequiturbase_Cnf.f sequiturbase_Lits.f
  exact Tells.pos rfl (Tells.bind (Tells.pos rfl (Lits_loop25 a hs ha a.length 0 rfl)) (Tells.const _))
theorem w64p {i : Nat} (h : i < 4611686018427387904) : wrap64 ((i : Int) - 1) = (i : Int) - 1 := by unfold wrap64; omega
theorem w64a {a b : Nat} (h : a + b < 4611686018427387904) : wrap64 ((a : Int) + (b : Int)) = ((a + b : Nat) : Int) := by unfold wrap64; omega
theorem empty25_loop (l : List (List Int)) (hs : l.length < 4611686018427387904) : ∀ (m i : Nat), m + i = l.length → Tells (fun k => sequiturref25_empty.l0 k l (i : Int)) (ixOf nilL (l.drop i) (i : Int))
  | 0, i, h => by
    rw [List.drop_of_length_le (by omega), show ixOf nilL [] (i : Int) = -1 from rfl]
    refine Tells.succ (fun k => by rw [sequiturref25_empty.l0]) (Tells.neg (by omega) (Tells.const _))
  | m + 1, i, h => by
    have hi : i < l.length := by omega
    rw [ixOf_drop nilL l i hi]
    refine Tells.succ (fun k => by rw [sequiturref25_empty.l0]) (Tells.pos (by omega) (Tells.pos (by omega) ?_))
    rw [rdL_at _ _ hi, w64s hi hs]
    refine Tells.congr (h := fun k => if nilL l[i] = true then some (i : Int) else sequiturref25_empty.l0 k l ((i + 1 : Nat) : Int)) (fun k => ?_) (Tells.ite (fun _ => Tells.const _) (fun _ => empty25_loop l hs m (i + 1) (by omega)))
    by_cases e : l[i] = []
    · rw [if_pos (show nilL l[i] = true from nilL_iff.2 e), if_pos (by rw [e]; rfl)]
    · rw [if_neg (fun h => e (nilL_iff.1 h)), if_neg (fun h => e (List.eq_nil_of_length_eq_zero (by omega)))]
theorem empty25 (l : List (List Int)) (hs : l.length < 4611686018427387904) : Tells (fun k => sequiturref25_empty.f k l) (ixOf nilL l 0) := by
  unfold sequiturref25_empty.f
  exact empty25_loop l hs l.length 0 rfl
section
variable {n : Nat} {ch : List S48}
theorem needs25_l2 (hd : Down n (ch.map (·.f1))) (hs : n + ch.length < 549755813888) {i : Nat} (hi : i < ch.length) (hf : ch[i].f1.length < 549755813888) {v : List Bool} :
    ∀ (m a : Nat), m + a = ch[i].f1.length → ∀ x : List Bool, x.length = n + ch.length → x.getD (n + i) false = true →
      Tells (fun k => sequiturref25_needs.l1 k ch (n : Int) (setAll x (ch[i].f1.drop a)) ((i : Int) - 1)) v → Tells (fun k => sequiturref25_needs.l2 k ch (n : Int) x (i : Int) (a : Int)) v
  | 0, a, h, x, hx, hg, H => by
    rw [List.drop_of_length_le (by omega)] at H
    refine Tells.succ (fun k => by rw [sequiturref25_needs.l2]) (Tells.pos (by omega) (Tells.pos (by omega) ?_))
    rw [rdC25_at _ _ hi, w64p (by omega)]
    exact Tells.neg (by omega) H
  | m + 1, a, h, x, hx, hg, H => by
    have ha : a < ch[i].f1.length := by omega
    have hdn := hd i ch[i].f1 (by rw [List.getElem?_map, List.getElem?_eq_getElem hi]; rfl)
    have hy := hdn _ (List.getElem_mem ha)
    refine Tells.succ (fun k => by rw [sequiturref25_needs.l2]) (Tells.pos (by omega) (Tells.pos (by omega) ?_))
    rw [rdC25_at _ _ hi, w64a (by omega), rd_at _ _ ha, rdOf_nat, hg, w64s ha (by omega)]
    refine Tells.pos (by omega) (Tells.pos (by omega) (Tells.pos (by omega) (Tells.pos rfl (Tells.pos (by omega) (Tells.pos hy.1 (Tells.pos (by omega) ?_))))))
    refine needs25_l2 hd hs hi hf m (a + 1) (by omega) _ (by rw [List.length_set]; exact hx) ?_ ?_
    · rw [getD_setB, hg, Bool.true_or]
    · rw [List.drop_eq_getElem_cons ha] at H
      exact H
theorem needs25_l1 (hd : Down n (ch.map (·.f1))) (hs : n + ch.length < 549755813888) (hf : ∀ x ∈ ch, x.f1.length < 549755813888) : ∀ (i : Nat) (x : List Bool), i ≤ ch.length → x.length = n + ch.length →
    Tells (fun k => sequiturref25_needs.l1 k ch (n : Int) x ((i : Int) - 1)) (downTo n (ch.map (·.f1)) i x)
  | 0, x, _, _ => by
    rw [show downTo n (ch.map (·.f1)) 0 x = x from rfl]
    refine Tells.succ (fun k => by rw [sequiturref25_needs.l1]) (Tells.neg (by omega) (Tells.const _))
  | i + 1, x, hi, hx => by
    have hil : i < ch.length := by omega
    have hget : (ch.map (·.f1)).getD i [] = ch[i].f1 := by rw [List.getD_eq_getElem?_getD, List.getElem?_map, List.getElem?_eq_getElem hil]; rfl
    have hdef : downTo n (ch.map (·.f1)) (i + 1) x = downTo n (ch.map (·.f1)) i (if x.getD (n + i) false = true then setAll x ch[i].f1 else x) := by rw [← hget]; rfl
    rw [hdef]
    refine Tells.succ (fun k => by rw [sequiturref25_needs.l1]) (Tells.pos (by omega) ?_)
    rw [show (((i + 1 : Nat) : Nat) : Int) - 1 = (i : Int) by omega]
    by_cases hg : x.getD (n + i) false = true
    · rw [if_pos hg]
      refine needs25_l2 hd hs hil (hf _ (List.getElem_mem hil)) _ 0 rfl x hx hg ?_
      rw [List.drop_zero]
      exact needs25_l1 hd hs hf i _ (by omega) (by rw [setAll_length]; exact hx)
    · rw [if_neg hg]
      refine Tells.succ (fun k => by rw [sequiturref25_needs.l2]) (Tells.pos (by omega) (Tells.pos (by omega) ?_))
      rw [rdC25_at _ _ hil, w64a (by omega), rdOf_nat, w64p (by omega)]
      by_cases h0 : (0 : Int) < (ch[i].f1.length : Int)
      · exact Tells.pos h0 (Tells.pos (by omega) (Tells.pos (by omega) (Tells.neg hg (needs25_l1 hd hs hf i x (by omega) hx))))
      · exact Tells.neg h0 (needs25_l1 hd hs hf i x (by omega) hx)
theorem needs25_l0 (hs : n + ch.length < 549755813888) {i0 : Nat} (hi0 : i0 < ch.length) (h0 : ch[i0].f0 = []) (hne : ∀ (j : Nat) (hj : j < ch.length), j < i0 → ch[j].f0 ≠ []) {x v : List Bool} (hx : x.length = n + ch.length)
    (H : Tells (fun k => sequiturref25_needs.l1 k ch (n : Int) (x.set (n + i0) true) ((ch.length : Int) - 1)) v) : ∀ (m i : Nat), m + i = i0 → Tells (fun k => sequiturref25_needs.l0 k ch (n : Int) x true (i : Int)) v
  | 0, i, h => by
    have e : i = i0 := by omega
    subst e
    refine Tells.succ (fun k => by rw [sequiturref25_needs.l0]) (Tells.pos (by omega) (Tells.succ (fun k => by rw [sequiturref25_needs.j1]) (Tells.pos rfl (Tells.pos (by omega) (Tells.pos (by omega) ?_)))))
    rw [rdC25_at _ _ hi0, w64a (by omega), w64s hi0 (by omega), h0]
    refine Tells.pos rfl (Tells.pos (by omega) (Tells.pos (by omega) ?_))
    have hfin : Tells (fun k => sequiturref25_needs.j1 k ch (n : Int) (x.set (n + i) true) false ((i + 1 : Nat) : Int) false) v := by
      refine Tells.succ (fun k => by rw [sequiturref25_needs.j1]) (Tells.neg (by decide) ?_)
      rw [w64p (by omega)]
      exact H
    refine Tells.succ (fun k => by rw [sequiturref25_needs.l0]) ?_
    by_cases hl : ((i + 1 : Nat) : Int) < (ch.length : Int)
    · exact Tells.pos hl hfin
    · exact Tells.neg hl hfin
  | m + 1, i, h => by
    have hi : i < ch.length := by omega
    refine Tells.succ (fun k => by rw [sequiturref25_needs.l0]) (Tells.pos (by omega) (Tells.succ (fun k => by rw [sequiturref25_needs.j1]) (Tells.pos rfl (Tells.pos (by omega) (Tells.pos (by omega) ?_)))))
    rw [rdC25_at _ _ hi, w64s hi (by omega)]
    refine Tells.neg (fun e => hne i hi (by omega) (List.eq_nil_of_length_eq_zero (by omega))) (needs25_l0 hs hi0 h0 hne hx H m (i + 1) (by omega))
end
section
variable {n : Int} {l : List (List Int)} {ch : List S48}
theorem rneeds_tells (h : (refutesL n l ch).2 = 0) (hs : l.length < 536870912) (hf : ∀ x ∈ ch, x.f1.length < 549755813888) :
    ∃ m : List Bool, m.length = l.length + ch.length ∧ NeedsOf l ch (fun v => m.getD v false) ∧ Tells (fun k => sequiturref25_needs.f k n l ch) m := by
  have hdn := refutes_down h
  obtain ⟨_, hc, _, he⟩ := refutes_ok h
  unfold sequiturref25_needs.f
  have hw := w64a (a := l.length) (b := ch.length) (by omega)
  have hrep : ∀ v, (List.replicate (l.length + ch.length) false).getD v false = false := fun v => by
    rw [List.getD_eq_getElem?_getD, List.getElem?_replicate]; split <;> rfl
  rcases ix25 nilL l 0 with ⟨e, k⟩ | ⟨a, x, e, hx, hp, k⟩
  · rcases ix25 endsE ch 0 with ⟨e2, k2⟩ | ⟨i0, y, e2, hy, hp2, k2⟩
    · exfalso
      rcases endsL_iff.1 he with q | ⟨x, hx, q⟩
      · have := k _ q
        rw [nilL_iff.2 rfl] at this; cases this
      · have := k2 x hx
        rw [show endsE x = true from nilL_iff.2 q] at this; cases this
    · have hi0 := (List.getElem?_eq_some_iff.1 hy).1
      have hyy := (List.getElem?_eq_some_iff.1 hy).2
      have hy0 : y.f0 = [] := nilL_iff.1 hp2
      have hL := downTo_least (n := l.length) (fs := ch.map (·.f1)) hdn (i0 := i0) (by rw [List.length_map]; exact hi0)
      rw [List.length_map] at hL
      have hlen : (downTo l.length (ch.map (·.f1)) ch.length ((List.replicate (l.length + ch.length) false).set (l.length + i0) true)).length = l.length + ch.length := by rw [downTo_length, List.length_set, List.length_replicate]
      refine ⟨downTo l.length (ch.map (·.f1)) ch.length ((List.replicate (l.length + ch.length) false).set (l.length + i0) true), hlen, .inr ⟨fun c hc hn => ?_, i0, y, hy, hy0, fun j z hj hz hn => ?_, fun v hv => ?_, hL⟩, ?_⟩
      · have := k c hc
        rw [nilL_iff.2 hn] at this; cases this
      · have := k2 j z hj hz
        rw [show endsE z = true from nilL_iff.2 hn] at this; cases this
      · refine Decidable.byContradiction fun hlt => ?_
        dsimp only at hv
        rw [List.getD_eq_getElem?_getD, List.getElem?_eq_none (by rw [hlen]; omega)] at hv
        cases hv
      · rw [hw]
        refine Tells.pos (by omega) (Tells.pos (by omega) ?_)
        rw [Int.toNat_natCast]
        refine Tells.bind (Tells.const _) (Tells.bind (empty25 l (by omega)) ?_)
        rw [show ixOf nilL l 0 = -1 from e]
        refine Tells.neg (by omega) ?_
        refine needs25_l0 (by omega) hi0 (by rw [hyy]; exact hy0) (fun j hj hlt hn => ?_) (by rw [List.length_replicate]) ?_ i0 0 rfl
        · have := k2 j _ hlt (List.getElem?_eq_getElem hj)
          rw [show endsE ch[j] = true from nilL_iff.2 hn] at this; cases this
        · exact needs25_l1 hdn (by omega) hf ch.length _ (Nat.le_refl _) (by rw [List.length_set, List.length_replicate])
  · have ha := (List.getElem?_eq_some_iff.1 hx).1
    have hx0 := nilL_iff.1 hp
    subst hx0
    rw [Nat.zero_add] at e
    have e1 : ixOf nilL l 0 = (a : Int) := e
    refine ⟨(List.replicate (l.length + ch.length) false).set a true, by rw [List.length_set, List.length_replicate], .inl ⟨a, hx, fun b hb hn => ?_, fun v => ?_⟩, ?_⟩
    · have := k b [] hb hn
      rw [nilL_iff.2 rfl] at this; cases this
    · dsimp only
      rw [getD_setB, hrep, Bool.false_or, List.length_replicate]
      by_cases e : v = a
      · subst e; simp; omega
      · rw [decide_eq_false (show ¬ a = v from fun q => e q.symm), decide_eq_false e]; rfl
    · rw [hw]
      refine Tells.pos (by omega) (Tells.pos (by omega) ?_)
      rw [Int.toNat_natCast]
      refine Tells.bind (Tells.const _) (Tells.bind (empty25 l (by omega)) ?_)
      rw [e1]
      refine Tells.pos (by omega) (Tells.pos (by omega) (Tells.pos (by rw [List.length_replicate]; omega) ?_))
      rw [Int.toNat_natCast]
      exact Tells.const _
theorem set_fill (d : Nat) (x : Int) : ∀ A : List Int, (A ++ List.replicate (d + 1) 0).set A.length x = A ++ [x] ++ List.replicate d 0
  | [] => rfl
  | a :: A => by
    show a :: (A ++ List.replicate (d + 1) 0).set A.length x = a :: (A ++ [x] ++ List.replicate d 0)
    rw [set_fill d x A]
theorem numbers25_loop (n : Nat) (m : List Bool) (all : Bool) (hs : m.length < 549755813888) {Q : Nat → Bool} (hQ : ∀ v, Q v = (m.getD v false || (decide (v < n) && all))) : ∀ (d i : Nat), d + i = m.length →
    Tells (fun k => sequiturref25_numbers.l0 k (n : Int) m all ((List.range i).map (fun v => ((below25 Q v : Nat) : Int)) ++ List.replicate d 0) ((below25 Q i : Nat) : Int) (i : Int)) ((List.range m.length).map (fun v => ((below25 Q v : Nat) : Int)))
  | 0, i, h => by
    refine Tells.succ (fun k => by rw [sequiturref25_numbers.l0]) (Tells.neg (by omega) ?_)
    rw [List.replicate_zero, List.append_nil, show i = m.length by omega]
    exact Tells.const _
  | d + 1, i, h => by
    have hi : i < m.length := by omega
    have hb := below25_le Q i
    have hset : ((List.range i).map (fun v => ((below25 Q v : Nat) : Int)) ++ List.replicate (d + 1) 0).set i ((below25 Q i : Nat) : Int) = (List.range (i + 1)).map (fun v => ((below25 Q v : Nat) : Int)) ++ List.replicate d 0 := by
      have := set_fill d ((below25 Q i : Nat) : Int) ((List.range i).map (fun v => ((below25 Q v : Nat) : Int)))
      rw [List.length_map, List.length_range] at this
      rw [this, List.range_succ, List.map_append]
      rfl
    have ih := numbers25_loop n m all hs hQ d (i + 1) (by omega)
    refine Tells.succ (fun k => by rw [sequiturref25_numbers.l0]) (Tells.pos (by omega) (Tells.pos (by omega) (Tells.pos (by rw [List.length_append, List.length_map, List.length_range, List.length_replicate]; omega) ?_)))
    rw [Int.toNat_natCast, hset, w64s hi (by omega)]
    refine Tells.bind (Tells.const _) ?_
    rw [below25_succ, hQ] at ih
    rw [rdOf_nat]
    by_cases h1 : m.getD i false = true
    · refine Tells.pos h1 ?_
      rw [h1, Bool.true_or, if_pos rfl] at ih
      rw [w64 (by omega) (by omega), show ((below25 Q i : Nat) : Int) + 1 = ((below25 Q i + 1 : Nat) : Int) by omega]
      exact ih
    · refine Tells.neg h1 ?_
      rw [Bool.eq_false_iff.2 h1, Bool.false_or] at ih
      by_cases h2 : i < n
      · refine Tells.pos (by omega) ?_
        rw [decide_eq_true h2, Bool.true_and] at ih
        by_cases h3 : all = true
        · refine Tells.pos h3 ?_
          rw [if_pos h3] at ih
          rw [w64 (by omega) (by omega), show ((below25 Q i : Nat) : Int) + 1 = ((below25 Q i + 1 : Nat) : Int) by omega]
          exact ih
        · refine Tells.neg h3 ?_
          rw [if_neg h3, Nat.add_zero] at ih
          exact ih
      · refine Tells.neg (by omega) ?_
        rw [decide_eq_false h2, Bool.false_and, if_neg Bool.false_ne_true, Nat.add_zero] at ih
        exact ih
theorem numbers25 (n : Nat) (m : List Bool) (all : Bool) (hs : m.length < 549755813888) {Q : Nat → Bool} (hQ : ∀ v, Q v = (m.getD v false || (decide (v < n) && all))) :
    Tells (fun k => sequiturref25_numbers.f k (n : Int) m all) ((List.range m.length).map (fun v => ((below25 Q v : Nat) : Int))) := by
  unfold sequiturref25_numbers.f
  refine Tells.pos (by omega) (Tells.pos (by omega) ?_)
  rw [Int.toNat_natCast]
  exact numbers25_loop n m all hs hQ m.length 0 rfl
theorem toldP_keepC (tl : List Int) (mk : Nat → Bool) : ∀ j, j ≤ ch.length → toldP tl mk (ch.take j) 0 = keepC ch (fun y => rd tl y) ((List.range j).filter mk)
  | 0, _ => rfl
  | j + 1, hj => by
    have hlt : j < ch.length := by omega
    have hg : ch.getD j ⟨[], []⟩ = ch[j] := by rw [List.getD_eq_getElem?_getD, List.getElem?_eq_getElem hlt]; rfl
    rw [List.take_add_one, List.getElem?_eq_getElem hlt, Option.toList_some, toldP_snoc, toldP_keepC tl mk j (by omega), List.length_take, Nat.min_eq_left (by omega), Nat.zero_add, List.range_succ, List.filter_append]
    unfold keepC
    rw [List.map_append]
    by_cases h : mk j = true
    · rw [if_pos h, List.filter_cons_of_pos h, List.filter_nil, List.map_cons, List.map_nil, hg]
    · rw [if_neg h, List.filter_cons_of_neg h, List.filter_nil, List.map_nil]
theorem keepC_same {M : Nat → Bool} (hdn : Down l.length (ch.map (·.f1))) (hN : NeedsOf l ch M) {g g' : Int → Int} (hg : ∀ v : Nat, v < l.length + ch.length → M v = true → g (v : Int) = g' (v : Int)) :
    keepC ch g ((List.range ch.length).filter fun i => M (l.length + i)) = keepC ch g' ((List.range ch.length).filter fun i => M (l.length + i)) := by
  unfold keepC
  refine List.map_congr_left fun i hi => ?_
  obtain ⟨h1, h2⟩ := List.mem_filter.1 hi
  have hi := List.mem_range.1 h1
  have hgt : ch.getD i ⟨[], []⟩ = ch[i] := by rw [List.getD_eq_getElem?_getD, List.getElem?_eq_getElem hi]; rfl
  rw [hgt]
  congr 1
  refine List.map_congr_left fun v hv => ?_
  have hx := List.getElem?_eq_getElem hi
  have hm := hN.shut i _ hx h2 v hv
  have hd := hdn i ch[i].f1 (by rw [List.getElem?_map, hx]; rfl) v hv
  have := hg v.toNat (by omega) hm
  rwa [show ((v.toNat : Nat) : Int) = v by omega] at this
theorem told25 (h : (refutesL n l ch).2 = 0) (hs : l.length < 536870912) (hf : ∀ x ∈ ch, x.f1.length < 549755813888) {m : List Bool} (hm : m.length = l.length + ch.length) (hN : NeedsOf l ch (fun v => m.getD v false)) {Q : Nat → Bool} {g : Int → Int} (hl : LeftOf l ch (fun v => m.getD v false) Q g) :
    sequiturref25_told.f (l.length : Int) ch m ((List.range m.length).map (fun v => ((below25 Q v : Nat) : Int))) = some (keepC ch g ((List.range ch.length).filter fun i => m.getD (l.length + i) false)) := by
  have hdn := refutes_down h
  have hc := (refutes_ok h).2.1
  unfold sequiturref25_told.f
  rw [if_pos]
  · congr 1
    have := toldP_keepC (ch := ch) ((List.range m.length).map (fun v => ((below25 Q v : Nat) : Int))) (markT (l.length : Int) m) ch.length (Nat.le_refl _)
    rw [List.take_of_length_le (Nat.le_refl _)] at this
    rw [this, show markT (l.length : Int) m = fun i => m.getD (l.length + i) false from funext fun i => by
      unfold markT
      rw [show ((l.length : Int) + (i : Int)) = ((l.length + i : Nat) : Int) by omega, rdOf_nat]]
    refine keepC_same hdn hN fun v hv hM => ?_
    rw [hl.num v hv hM]
    show rd _ (v : Int) = _
    rw [rd_at _ _ (by rw [List.length_map, List.length_range, hm]; exact hv), List.getElem_map, List.getElem_range]
  · refine ⟨by omega, by rw [hm]; omega, by rw [hm]; omega, fun x hx => ⟨hf x hx, fun y hy => ?_⟩⟩
    obtain ⟨i, hi⟩ := List.mem_iff_getElem?.1 hx
    have hil := (List.getElem?_eq_some_iff.1 hi).1
    have := hdn i x.f1 (by rw [List.getElem?_map, hi]; rfl) y hy
    rw [List.length_map, List.length_range, hm]
    omega
theorem rUsed_loop (l : List (List Int)) (n : Int) (m : List Bool) (hm : l.length ≤ m.length) (hs : l.length < 536870912) : ∀ (d i : Nat), d + i = l.length → Tells (fun k => sequiturref25_Used.l0 k (nums25 (fun v => m.getD v false) i) m (i : Int) n l) (nums25 (fun v => m.getD v false) l.length)
  | 0, i, h => by
    refine Tells.succ (fun k => by rw [sequiturref25_Used.l0]) (Tells.neg (by omega) ?_)
    rw [show i = l.length by omega]
    exact Tells.const _
  | d + 1, i, h => by
    have hi : i < l.length := by omega
    have ih := rUsed_loop l n m hm hs d (i + 1) (by omega)
    have hle := nums25_le (fun v => m.getD v false) i
    refine Tells.succ (fun k => by rw [sequiturref25_Used.l0]) (Tells.pos (by omega) (Tells.pos (by omega) (Tells.pos (by omega) ?_)))
    rw [rdOf_nat, w64s hi (by omega)]
    rw [nums25_succ] at ih
    by_cases h1 : m.getD i false = true
    · rw [if_pos h1] at ih
      exact Tells.pos h1 (Tells.pos (by omega) ih)
    · rw [if_neg h1] at ih
      exact Tells.neg h1 ih
theorem rOf_loop (l : List (List Int)) (ch : List S48) (n : Int) (m : List Bool) (hm : m.length = l.length + ch.length) (hs : l.length < 536870912) (hs2 : ch.length ≤ 4096) {r : List S48}
    (H : sequiturref25_told.f (l.length : Int) ch m ((List.range m.length).map (fun v => ((below25 (fun v => m.getD v false) v : Nat) : Int))) = some r) : ∀ (d i : Nat), d + i = l.length →
    Tells (fun k => sequiturref25_Of.l0 k ch m (i : Int) n l n (pickN [] l ((List.range i).filter (fun v => m.getD v false)))) (n, pickN [] l ((List.range l.length).filter (fun v => m.getD v false)), r)
  | 0, i, h => by
    refine Tells.succ (fun k => by rw [sequiturref25_Of.l0]) (Tells.neg (by omega) ?_)
    rw [show i = l.length by omega]
    exact Tells.bind (numbers25 l.length m false (by omega) (Q := fun v => m.getD v false) (fun v => by rw [Bool.and_false, Bool.or_false])) (Tells.bind (Tells.of_eq fun _ => H) (Tells.const _))
  | d + 1, i, h => by
    have hi : i < l.length := by omega
    have ih := rOf_loop l ch n m hm hs hs2 H d (i + 1) (by omega)
    have hle : (pickN [] l ((List.range i).filter (fun v => m.getD v false))).length ≤ i := by
      unfold pickN
      rw [List.length_map]
      have := List.length_filter_le (fun v => m.getD v false) (List.range i)
      rwa [List.length_range] at this
    refine Tells.succ (fun k => by rw [sequiturref25_Of.l0]) (Tells.pos (by omega) (Tells.pos (by omega) (Tells.pos (by omega) ?_)))
    rw [rdOf_nat, w64s hi (by omega), rdL_at _ _ hi]
    rw [List.range_succ, List.filter_append] at ih
    by_cases h1 : m.getD i false = true
    · rw [List.filter_cons_of_pos (p := fun v => m.getD v false) h1, List.filter_nil] at ih
      have e : pickN [] l ((List.range i).filter (fun v => m.getD v false) ++ [i]) = pickN [] l ((List.range i).filter (fun v => m.getD v false)) ++ [l[i]] := by
        unfold pickN
        rw [List.map_append, List.map_cons, List.map_nil, List.getD_eq_getElem?_getD, List.getElem?_eq_getElem hi]; rfl
      rw [e] at ih
      exact Tells.pos h1 (Tells.pos (by omega) ih)
    · rw [List.filter_cons_of_neg (p := fun v => m.getD v false) h1, List.filter_nil, List.append_nil] at ih
      exact Tells.neg h1 ih
end
theorem trims_f (n : Int) (l : List (List Int)) (ch : List S48) (hl : Rows64 l) (hn : I64 n) (hc : Chains64 ch) (hb : ∀ x ∈ ch, x.f0.length < 1099511627776000 ∧ x.f1.length < 1099511627776000) (hlb : ∀ c ∈ l, c.length < 1099511627776000) (hn1 : l.length < 1099511627776000) (hn2 : ch.length < 1099511627776000) :
    Tells (fun k => sequiturlaw25_CoreTrims.f k n l ch) true := by
  unfold sequiturlaw25_CoreTrims.f
  obtain ⟨s2, hs3, hs4⟩ := small25_tells n l hl ch hc hb hlb hn1 hn2
  refine Tells.bind hs3 ?_
  by_cases hx : s2 = true
  case neg => exact Tells.neg hx (Tells.bind goes25 (Tells.const _))
  refine Tells.pos hx ?_
  have hT := hs4 hx
  have hfit := hT.fits hl hc
  have hsz := hT.all
  obtain ⟨a1, a2⟩ := trim_tells (n := n) hn hl hfit (by omega)
  obtain ⟨b1, b2⟩ := used_tells n l ch hn hl hfit (by omega)
  obtain ⟨c1, c2⟩ := of_tells (n := n) hn hl hfit (by omega)
  have hR := chain_Refutes_tells n l ch 2000 2000 hn hl hfit
  by_cases hr : (refutesL n l ch).2 = 0
  case neg =>
    have hU : Tells (fun k => core_Used.f k n l ch) ([], (refutesL n l ch).2) := by unfold core_Used.f; exact Tells.bind (b1 hr) (Tells.const _)
    refine Tells.bind (a1 hr) (Tells.bind hU (Tells.bind (c1 hr) (Tells.bind hR (Tells.neg hr ?_))))
    exact Tells.pos rfl (Tells.pos rfl (Tells.pos rfl (Tells.pos rfl (Tells.pos rfl (Tells.pos rfl (Tells.pos rfl (Tells.pos rfl (Tells.bind goes25 (Tells.const _)))))))))
  obtain ⟨M, hN, hM⟩ := a2 hr
  obtain ⟨M2, hN2, hM2⟩ := b2 hr
  obtain ⟨M3, hN3, hM3⟩ := c2 hr
  obtain ⟨m, hm, hN4, hm4⟩ := rneeds_tells hr (by omega) (fun x hx => by have := (hfit.ch x hx).2.1; omega)
  have e2 := hN2.eq hN
  have e3 := hN3.eq hN
  have e4 := hN.eq hN4
  subst e2 e3 e4
  have hU : Tells (fun k => core_Used.f k n l ch) (nums25 (fun v => m.getD v false) l.length, 0) := by unfold core_Used.f; exact Tells.bind hM2 (Tells.const _)
  have hf1 : ∀ x ∈ ch, x.f1.length < 549755813888 := fun x hx => by have := (hfit.ch x hx).2.1; omega
  have hcl := (refutes_ok hr).2.1
  have t1 := told25 hr (by omega) hf1 hm hN (trim_left (l := l) (ch := ch) (M := fun v => m.getD v false))
  have t2 := told25 hr (by omega) hf1 hm hN (of_left (l := l) (ch := ch) (M := fun v => m.getD v false))
  have hrT : Tells (fun k => sequiturref25_Trim.f k n l ch) (trimOf l ch (fun v => m.getD v false)) := by
    unfold sequiturref25_Trim.f
    exact Tells.bind hm4 (Tells.bind (numbers25 l.length m true (by omega) (Q := fun u => m.getD u false || decide (u < l.length)) (fun v => by rw [Bool.and_true])) (Tells.bind (Tells.of_eq fun _ => t1) (Tells.const _)))
  have hrU : Tells (fun k => sequiturref25_Used.f k n l ch) (nums25 (fun v => m.getD v false) l.length) := by
    unfold sequiturref25_Used.f
    exact Tells.bind hm4 (rUsed_loop l n m (by omega) (by omega) l.length 0 rfl)
  have hrO : Tells (fun k => sequiturref25_Of.f k n l ch) (n, pickN [] l ((List.range l.length).filter (fun v => m.getD v false)), ofOf l ch (fun v => m.getD v false)) := by
    unfold sequiturref25_Of.f
    exact Tells.bind hm4 (rOf_loop l ch n m hm (by omega) hcl t2 l.length 0 rfl)
  have htl : (trimOf l ch (fun v => m.getD v false)).length ≤ ch.length := by
    unfold trimOf keepC
    rw [List.length_map]
    have := List.length_filter_le (fun i => m.getD (l.length + i) false) (List.range ch.length)
    rwa [List.length_range] at this
  have hol : (ofOf l ch (fun v => m.getD v false)).length ≤ ch.length := by
    unfold ofOf keepC
    rw [List.length_map]
    have := List.length_filter_le (fun i => m.getD (l.length + i) false) (List.range ch.length)
    rwa [List.length_range] at this
  have hlen : (pickN [] l ((List.range l.length).filter (fun v => m.getD v false))).length ≤ l.length := by
    unfold pickN
    rw [List.length_map]
    have := List.length_filter_le (fun v => m.getD v false) (List.range l.length)
    rwa [List.length_range] at this
  have hnl := nums25_le (fun v => m.getD v false) l.length
  have htf : Fits 2000 2000 l (trimOf l ch (fun v => m.getD v false)) := keepC_fits hfit (fun _ h => h) _ _
  have hmf : Fits 2000 2000 l (ofOf l ch (fun v => m.getD v false)) := keepC_fits hfit (fun _ h => h) _ _
  have s1 := Chains_same (trimOf l ch (fun v => m.getD v false)) (by omega) (fun x hx => by have := htf.ch x hx; omega)
  have s3 := Chains_same (ofOf l ch (fun v => m.getD v false)) (by omega) (fun x hx => by have := hmf.ch x hx; omega)
  have s4 := Ints_same (nums25 (fun v => m.getD v false) l.length) (by omega)
  have s5 := Cnf_same n (pickN [] l ((List.range l.length).filter (fun v => m.getD v false))) (by omega) (fun x hx => by have := (hfit.cs x (pickN_sub _ x hx)).1; omega)
  refine Tells.bind hM (Tells.bind hU (Tells.bind hM3 (Tells.bind hR (Tells.pos hr (Tells.bind hrO (Tells.pos rfl (Tells.pos rfl (Tells.pos rfl (Tells.bind hrT ?_)))))))))
  exact Tells.bind s1 (Tells.pos rfl (Tells.bind hrU (Tells.bind s4 (Tells.pos rfl (Tells.bind s5 (Tells.pos rfl (Tells.bind s3 (Tells.pos rfl (Tells.bind goes25 (Tells.const _))))))))))
end Go.Proofs.Ytppkeonhbkahmaa.Pu
namespace Go.Proofs.Ytppkeonhbkahmaa.Pure
open Go.Proofs.Ytppkeonhbkahmaa.Pu Go.Proofs.Ytppkeonhbkahmaa.P
theorem CoreTrims (n : Int) (l : List (List Int)) (ch : List S48) (hn : (Lit.int .i64 n).wf = true) (hl : Open.Row 24 (Open.Row 8 fun n => (Lit.int .i64 n).wf = true) l)
    (hch : Open.Row 48 (fun x : S48 => Open.Row 8 (fun n => (Lit.int .i64 n).wf = true) x.f0 ∧ Open.Row 8 (fun n => (Lit.int .i64 n).wf = true) x.f1) ch) : ∃ k, sequiturlaw25_CoreTrims.f k n l ch = some true :=
  (trims_f n l ch (rows64 hl) hn (chains64 hch) (fun x hx => ⟨by have := (hch.2 x hx).1.1; omega, by have := (hch.2 x hx).2.1; omega⟩) (fun c hc => by have := (hl.2 c hc).1; omega) (by have := hl.1; omega) (by have := hch.1; omega)).ex
end Go.Proofs.Ytppkeonhbkahmaa.Pure
