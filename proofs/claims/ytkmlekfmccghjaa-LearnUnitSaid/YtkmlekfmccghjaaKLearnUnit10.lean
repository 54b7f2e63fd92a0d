import Derived.Lib.SlicesCompact
import Derived.Lib.RowBridge
import Derived.Shelf.SlSortCmp.NoneTotal
import Derived.Shelf.Slices.CompactI
import Derived.Test.YtkmlekfmccghjaaKLearnUnit1
namespace Go.Proofs.Ytkmlekfmccghjaa.P
open Go.RowKit Go.Proofs.YtkmlekfmccghjaaW.PrintWords Go.Proofs.YtkmlekfmccghjaaW.PrintLast Go.Proofs.YtkmlekfmccghjaaW.PrintMore
attribute [local go_sem] max2_int min2_int max_two min_two max_three min_three max_four min_four
set_option linter.unusedVariables false
set_option linter.unusedSimpArgs false
def setLI : List Int → Nat → List Int → List Int
  | xs, _, [] => xs
  | xs, o, y :: t => setLI (xs.set o y) (o + 1) t
theorem setLI_mid : ∀ (ys xs : List Int) (o : Nat), o + ys.length ≤ xs.length → (setLI xs o ys).take (o + ys.length) = xs.take o ++ ys
  | [], xs, o, _ => by simp [setLI]
  | y :: t, xs, o, h => by
    have ht := setLI_mid t (xs.set o y) (o + 1) (by simp at h ⊢; omega)
    rw [setLI, List.length_cons, show o + (t.length + 1) = o + 1 + t.length by omega, ht]
    simp only [List.length_cons] at h
    rw [List.take_add_one, List.take_set_of_le (Nat.le_refl o), List.getElem?_set_self (by omega)]
    simp
theorem setLI_length : ∀ (ys xs : List Int) (o : Nat), (setLI xs o ys).length = xs.length
  | [], _, _ => rfl
  | y :: t, xs, o => by rw [setLI, setLI_length t]; simp
theorem R_setsI {e base g n cap : Nat} {ok : Nat → Prop} : ∀ (ys xs : List Int) (o : Nat) (W : World), Kd.R (Kd.int .i64) e W base ok (.slice (some ⟨g, 0, none⟩) n cap) xs →
    Kd.R (Kd.int .i64) e (W.setCells g o (ys.map (Value.int .i64))) base ok (.slice (some ⟨g, 0, none⟩) n cap) (setLI xs o ys) ∧ W.grownBy (W.setCells g o (ys.map (Value.int .i64))) (some g)
  | [], xs, o, W, h => ⟨h, ⟨rfl, rfl, rfl, Nat.le_refl _, fun _ _ _ => rfl⟩⟩
  | y :: t, xs, o, W, h => by
    obtain ⟨h2, hg⟩ := Kd.R_putg h (o : Int) y
    simp only [Int.toNat_natCast] at h2 hg
    obtain ⟨h3, hg3⟩ := R_setsI t (xs.set o y) (o + 1) _ h2
    exact ⟨h3, World.grownBy.trans hg hg3⟩
open Go.Lib Go.Sort in
theorem R_holds {e base g cap n : Nat} {ok : Nat → Prop} {W : World} {xs : List Int} (h : Kd.R (Kd.int .i64) e W base ok (.slice (some ⟨g, 0, none⟩) n cap) xs) : Holds (Value.int .i64) W g 0 xs.toArray := fun j hj => by
  obtain ⟨hn, hnc, _⟩ := Kd.R_reads' h
  have hj' : j < xs.length := by simpa using hj
  obtain ⟨h1, h2⟩ := Kd.R_celln (0 : Int) h (j : Int) (by omega) (by omega)
  simp only [Int.toNat_natCast] at h1 h2
  rw [Nat.zero_add]
  refine ⟨?_, h2⟩
  have e1 : rdOf 0 xs (j : Int) = xs.toArray[j]! := by simp [rdOf, hj']
  rw [← e1]; exact h1
open Go.Lib Go.Sort in
theorem R_rowPut {e base g cap n : Nat} {ok : Nat → Prop} {W : World} {xs : List Int} (ys : List Int) (hl : ys.length = xs.length) (q : Nat) (h : Kd.R (Kd.int .i64) e W base ok (.slice (some ⟨g, 0, none⟩) n cap) xs) :
    Kd.R (Kd.int .i64) e (putRow (Value.int .i64) (Sort.ahead W q) g 0 ys.toArray) base ok (.slice (some ⟨g, 0, none⟩) n cap) ys ∧ (W.drewN q).grownBy (putRow (Value.int .i64) (Sort.ahead W q) g 0 ys.toArray) (some g) := by
  rw [putRow_eq_setCells (Value.int .i64) W g 0 xs.toArray ys q (R_holds h) (by simpa using hl)]
  obtain ⟨h1, h2⟩ := R_setsI ys xs 0 (W.drewN q) (Kd.R_drewN h q)
  have e1 : setLI xs 0 ys = ys := by
    have hm := setLI_mid ys xs 0 (by omega)
    rw [List.take_of_length_le (by rw [setLI_length]; omega)] at hm
    simpa using hm
  rw [e1] at h1
  exact ⟨h1, h2⟩
open Go.Lib Go.Sort in
theorem R_grow {e base : Nat} {ok : Nat → Prop} {W : World} {v : Value} {xs : List Int} (os : Array Obj) (h : Kd.R (Kd.int .i64) e W base ok v xs) : Kd.R (Kd.int .i64) e (grow W os) base ok v xs ∧ Below W.heap.size W (grow W os) := by
  have hb : Below W.heap.size W (grow W os) := by
    refine ⟨rfl, rfl, rfl, by simp [grow], fun k hk => ?_⟩
    show (W.heap ++ os)[k]? = W.heap[k]?
    exact Array.getElem?_append_left hk
  exact ⟨Kd.R_below h hb, hb⟩
end Go.Proofs.Ytkmlekfmccghjaa.P
