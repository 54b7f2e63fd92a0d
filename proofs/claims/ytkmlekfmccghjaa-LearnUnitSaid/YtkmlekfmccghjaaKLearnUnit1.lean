import Derived.Test.YtkmlekfmccghjaaKLearnUnitW
import Derived.Test.YtkmlekfmccghjaaProg
import Derived.Below
import Derived.Deep.Draws
import Derived.Deep.AppendLies
import Derived.Maps.AppendAt
import Derived.OwnWalk
import Derived.Laws.BytesArg
import Derived.Laws.MakeOwn
import Derived.Laws.OwnMore
import Derived.Deep.OwnRows
import Derived.Tactics
import Derived.Lib.ConvBytes
import Derived.Laws.Slices
import Derived.WalkKit
import Derived.KernelRfl
import Derived.RowKit3
import Derived.Deep.LoopGhost
import Derived.Deep.QuietTactic
import Derived.BigQuiet
import Derived.WideLaws
import Derived.Deep.DeepCutAuto
import Derived.Deep.CutBlock
import Derived.Deep.RegionHeld3
import Derived.Laws.Rows
import Derived.Lib.AppendStr
import Derived.ArgAppend
import Derived.Laws.IdiomCopy
import Derived.OrdersHeld
import Derived.Laws.BitsLemmas
import Derived.RowKit
import Derived.Maps.OwnSet
import Derived.Maps.OwnOps
import Derived.Maps.Views
import Derived.WalkSpells
import Derived.StillTailTactics
import Derived.Shelf.Abstract
namespace Go.Proofs.Ytkmlekfmccghjaa.P
open Go.RowKit Go.Proofs.YtkmlekfmccghjaaW.PrintWords Go.Proofs.YtkmlekfmccghjaaW.PrintLast Go.Proofs.YtkmlekfmccghjaaW.PrintMore
attribute [local go_sem] max2_int min2_int max_two min_two max_three min_three max_four min_four
set_option linter.unusedVariables false
set_option linter.unusedSimpArgs false
def errW : Option Int → Value
  | none => .nilIface
  | some c => .iface 0 (.int .i64 c)
theorem errW_none : errW none = .nilIface := rfl
theorem errW_some (c : Int) : errW (some c) = .iface 0 (.int .i64 c) := rfl
theorem info3 : (Try.prog.info? 3).map (fun i => (i.zero, i.size, i.bytes)) = some (some (.int .i64 0), 1, 8) := by kernel_rfl
def rd_L3 (xs : List (List Int)) (i : Int) : (List Int) := xs.getD i.toNat ([] : List Int)
theorem at_L3 {w : World} {A : Option Addr} {n : Nat} {xs : List (List Int)} (h : Kd.C (Kd.slice 3 (Kd.int .i64)) w A n xs) (i : Int) (h0 : 0 ≤ i) (h1 : i < n) : ∃ ad A0 c0, A = some ad ∧ w.cell? (ad.add i.toNat) = some (.slice A0 (rd_L3 xs i).length c0) ∧ (rd_L3 xs i).length ≤ c0 ∧ (Kd.int .i64).C w A0 (rd_L3 xs i).length (rd_L3 xs i) := by
  obtain ⟨ad, c, e, _, hK, hc0⟩ := Kd.C_get h ([] : List Int) i h0 h1
  have hc : ∀ j u, c[j]? = some u → w.cell? (ad.add (i.toNat * 1 + j)) = some u := hc0
  obtain ⟨A0, c0, rfl, l0, g0⟩ := hK
  exact ⟨ad, A0, c0, e, by have hq := hc 0 _ rfl; rwa [Nat.mul_one, Nat.add_zero] at hq, l0, g0⟩
structure S39 where
  f0 : Int
  f1 : Int
  f2 : (List Int)
def z39 : S39 := ⟨(0 : Int), (0 : Int), ([] : List Int)⟩
def heldR (v : Value) : Option (DataW Value × List MemPlace) := some (.held v, [])
def KeysI (D : DataW Value) : Prop := ∃ es, D = .map es ∧ es.Pairwise (fun p q => p.1 ≠ q.1) ∧ ∀ p ∈ es, ∃ x : Int, p.1 = .int .i64 x
def MapI (P : Program) (k : TypeId) (w : World) (b : Nat) (f : Int → Option Value) : Prop :=
  ∃ D, w.ownsMap P k heldR b (Maps.size D) D ∧ KeysI D ∧ ∀ x : Int, Maps.has D (.int .i64 x) = (f x).isSome ∧ ∀ z, D.atKey (.int .i64 x) (.held z) = .held ((f x).getD z)
section
variable {P : Program} {k : TypeId} {w : World} {b : Nat} {f : Int → Option Value}
theorem ownsMap_tight {R : Value → Option (DataW Value × List MemPlace)} {n : Nat} {D : DataW Value} (h : w.ownsMap P k R b n D) : w.ownsMap P k R b (Maps.size D) D := by
  obtain ⟨es, clock, hb, F, hs, rfl⟩ := h
  exact ⟨es, clock, hb, F, by simp [Maps.size, Go.length_sorted], rfl⟩
theorem KeysI.tidy {D : DataW Value} (h : KeysI D) : Maps.Tidy D := by
  obtain ⟨es, e, hp, _⟩ := h
  exact ⟨es, e, hp⟩
theorem mem_insert_lit {x y : Lit × DataW Value} : ∀ {l : List (Lit × DataW Value)}, y ∈ DataW.insert x l → y = x ∨ y ∈ l
  | [], h => by simp [DataW.insert] at h; exact .inl h
  | z :: r, h => by
    unfold DataW.insert at h
    split at h
    · rcases List.mem_cons.1 h with h | h
      · exact .inl h
      · exact .inr h
    · rcases List.mem_cons.1 h with h | h
      · exact .inr (by simp [h])
      · rcases mem_insert_lit h with h | h
        · exact .inl h
        · exact .inr (by simp [h])
theorem KeysI.put {D : DataW Value} (h : KeysI D) (x : Int) (d : DataW Value) : KeysI (D.put (.int .i64 x) d) := by
  obtain ⟨es', e', hp'⟩ := h.tidy.put (k := .int .i64 x) trivial d
  refine ⟨es', e', hp', fun p hp => ?_⟩
  obtain ⟨es, rfl, _, hk⟩ := h
  unfold DataW.put at e'
  injection e' with e'
  rw [← e'] at hp
  rcases mem_insert_lit hp with rfl | hp
  · exact ⟨x, rfl⟩
  · exact hk p (List.mem_filter.1 hp).1
theorem KeysI.del {D : DataW Value} (h : KeysI D) (x : Int) : KeysI (D.del (.int .i64 x)) := by
  obtain ⟨es', e', hp'⟩ := h.tidy.del (.int .i64 x)
  refine ⟨es', e', hp', fun p hp => ?_⟩
  obtain ⟨es, rfl, _, hk⟩ := h
  unfold DataW.del at e'
  injection e' with e'
  rw [← e'] at hp
  exact hk p (List.mem_filter.1 hp).1
theorem nodup_le : ∀ {K L : List Int}, K.Nodup → (∀ x ∈ K, x ∈ L) → K.length ≤ L.length
  | [], _, _, _ => by simp
  | x :: K, L, hn, h => by
    obtain ⟨h1, h2⟩ := List.nodup_cons.1 hn
    have hx := h x (by simp)
    have := nodup_le (K := K) (L := L.erase x) h2 (fun y hy => (List.mem_erase_of_ne (by rintro rfl; exact h1 hy)).2 (h y (by simp [hy])))
    rw [List.length_erase_of_mem hx] at this
    have := List.length_pos_of_mem hx
    rw [List.length_cons]; omega
theorem size_le_cover {D : DataW Value} (hD : KeysI D) (hf : ∀ x : Int, Maps.has D (.int .i64 x) = (f x).isSome) (L : List Int) (hL : ∀ x, (f x).isSome = true → x ∈ L) : Maps.size D ≤ L.length := by
  obtain ⟨es, rfl, hp, hk⟩ := hD
  let g : Lit × DataW Value → Int := fun p => match p.1 with | .int _ x => x | _ => 0
  have hg : ∀ p ∈ es, p.1 = .int .i64 (g p) := fun p hp => by
    obtain ⟨x, e⟩ := hk p hp
    show p.1 = .int .i64 (match p.1 with | .int _ x => x | _ => 0)
    rw [e]
  have hn : (es.map g).Nodup := by
    unfold List.Nodup
    rw [List.pairwise_map]
    refine hp.imp_of_mem fun {p q} hp hq hne e => hne ?_
    rw [hg p hp, hg q hq, e]
  have := nodup_le hn (L := L) (fun x hx => by
    obtain ⟨p, hpm, rfl⟩ := List.mem_map.1 hx
    refine hL _ ?_
    rw [← hf]
    rw [Maps.has_eq, List.any_eq_true]
    exact ⟨p, hpm, by rw [hg p hpm]; simp [Lit.sameKey]⟩)
  simpa [Maps.size] using this
theorem MapI.made (w : World) (P : Program) (k : TypeId) : MapI P k (w.alloc (.map #[] 0)) w.heap.size (fun _ => none) :=
  ⟨.map [], World.ownsMap_made w P k heldR, ⟨[], rfl, List.Pairwise.nil, fun p hp => by cases hp⟩, fun x => ⟨rfl, fun z => rfl⟩⟩
theorem MapI.lt (h : MapI P k w b f) : b < w.heap.size := by
  obtain ⟨D, h, _⟩ := h
  exact h.lt
theorem MapI.block {w' : World} (h : MapI P k w b f) (hb : w'.heap[b]? = w.heap[b]?) : MapI P k w' b f := by
  obtain ⟨D, ⟨es, clock, h1, F, h2⟩, r⟩ := h
  exact ⟨D, ⟨es, clock, hb.trans h1, F, h2⟩, r⟩
theorem MapI.congr {g : Int → Option Value} (h : MapI P k w b f) (e : ∀ x, f x = g x) : MapI P k w b g := by
  rw [← funext e]; exact h
theorem MapI.look {t e : TypeId} (h : MapI P k w b f) (hk : P.underlying k = some (.int .i64)) (ht : P.underlying t = some (.map k e)) {z : Value} (hz : (zeroValue e).run P w = .ok z w) {x : Int} (hx : (Lit.int .i64 x).wf = true) :
    (Instr.lookup t (.map (some b)) (.int .i64 x) false).run P w = .ok ((f x).getD z) w := by
  obtain ⟨D, h, _, hf⟩ := h
  obtain ⟨v, ps, hrun, hv⟩ := h.lookup (Maps.int_keyed hk) ht hz (show heldR z = some (.held z, []) from rfl) (Maps.keyOf_int_mk hk hx)
  rw [(hf x).2 z] at hv
  simp only [heldR, Option.some.injEq, Prod.mk.injEq, DataW.held.injEq] at hv
  rw [hrun, hv.1]
theorem MapI.look_ok {t e : TypeId} (h : MapI P k w b f) (hk : P.underlying k = some (.int .i64)) (ht : P.underlying t = some (.map k e)) {z : Value} (hz : (zeroValue e).run P w = .ok z w) {x : Int} (hx : (Lit.int .i64 x).wf = true) :
    (Instr.lookup t (.map (some b)) (.int .i64 x) true).run P w = .ok (.tuple #[(f x).getD z, .bool (f x).isSome]) w := by
  obtain ⟨D, h, _, hf⟩ := h
  obtain ⟨v, ps, hrun, hv⟩ := h.look_ok (Maps.int_keyed hk) ht hz (show heldR z = some (.held z, []) from rfl) (Maps.keyOf_int_mk hk hx)
  rw [(hf x).2 z] at hv
  simp only [heldR, Option.some.injEq, Prod.mk.injEq, DataW.held.injEq] at hv
  rw [hrun, hv.1, (hf x).1]
def setI (f : Int → Option Value) (x : Int) (v : Option Value) : Int → Option Value := fun y => if y = x then v else f y
theorem MapI.store {t e : TypeId} (h : MapI P k w b f) (hk : P.underlying k = some (.int .i64)) (ht : P.underlying t = some (.map k e)) {x : Int} (hx : (Lit.int .i64 x).wf = true) (v : Value) (L : List Int) (hL : ∀ x, (f x).isSome = true → x ∈ L) (hn : L.length < 4611686018427387904) :
    ∃ w', (Instr.mapUpdate t (.map (some b)) (.int .i64 x) v).run P w = .ok () w' ∧ MapI P k w' b (setI f x (some v)) ∧ w.grownBy w' (some b) := by
  obtain ⟨D, h, hD, hf⟩ := h
  have hsz := size_le_cover hD (fun x => (hf x).1) L hL
  obtain ⟨w', hrun, hown, hg⟩ := h.update (Maps.int_keyed hk) ht (by unfold maxLen; omega) (Maps.keyOf_int_mk hk hx) (show heldR v = some (.held v, []) from rfl)
  refine ⟨w', hrun, ⟨_, ownsMap_tight hown, hD.put x _, fun y => ?_⟩, hg⟩
  unfold setI
  by_cases e : y = x
  · subst e
    rw [if_pos rfl]
    exact ⟨Maps.has_put_same hD.tidy.isMap (show WideAt.IsKeyLit (.int .i64 y) from trivial) _, fun z => Maps.atKey_put_same hD.tidy.isMap (show WideAt.IsKeyLit (.int .i64 y) from trivial) _ _⟩
  · rw [if_neg e]
    have hne : (Lit.int .i64 y) ≠ .int .i64 x := fun h => e (by injection h)
    rw [Maps.has_put_other hne]
    exact ⟨(hf y).1, fun z => by rw [Maps.atKey_put_other hne]; exact (hf y).2 z⟩
theorem MapI.drop {t e : TypeId} (h : MapI P k w b f) (hk : P.underlying k = some (.int .i64)) (ht : P.underlying t = some (.map k e)) {x : Int} (hx : (Lit.int .i64 x).wf = true) (ty : TypeId) :
    ∃ w', (Builtin.delete_ #[t, k] ty #[.map (some b), .int .i64 x]).run P w = .ok (.tuple #[]) w' ∧ MapI P k w' b (setI f x none) ∧ w.grownBy w' (some b) := by
  obtain ⟨D, h, hD, hf⟩ := h
  obtain ⟨w', hrun, hown, ht'⟩ := h.drop (Maps.int_keyed hk) ht (Maps.keyOf_int_mk hk hx) ty
  refine ⟨w', hrun, ⟨_, ownsMap_tight hown, hD.del x, fun y => ?_⟩, ht'.grown⟩
  unfold setI
  by_cases e : y = x
  · subst e
    rw [if_pos rfl]
    exact ⟨Maps.has_del_same, fun z => Maps.atKey_del_same _⟩
  · rw [if_neg e]
    have hne : (Lit.int .i64 y) ≠ .int .i64 x := fun h => e (by injection h)
    rw [Maps.has_del_other hne]
    exact ⟨(hf y).1, fun z => by rw [Maps.atKey_del_other hne]; exact (hf y).2 z⟩
end
section
variable {P : Program} {w : World} {ops : Array Oper} {rest : List Oper} {o : Oper} {a : Act} {Q : Exit → Act → World → Prop}
theorem wpList_store_I (hg : o.guard = none) (m x v : Operand) (t : TypeId) (hop : o.op = Op.mapUpdate t m x v) (k e : TypeId) (hk : P.underlying k = some (.int .i64)) (ht : P.underlying t = some (.map k e)) (b : Nat) (f : Int → Option Value)
    (hm : a.eval m = .map (some b)) (h : MapI P k w b f) (y : Int) (val : Value) (hx : a.eval x = .int .i64 y) (hv : a.eval v = val) (hy : (Lit.int .i64 y).wf = true) (L : List Int) (hL : ∀ x, (f x).isSome = true → x ∈ L) (hn : L.length < 4611686018427387904)
    (hK : ∀ w', MapI P k w' b (setI f y (some val)) → w.grownBy w' (some b) → wpList P ops Q rest (a.put o.dst undef) w') : wpList P ops Q (o :: rest) a w := by
  refine wpList_plain hg fun K' hK' => ?_
  obtain ⟨w', hrun, r1, r2⟩ := h.store hk ht hy val L hL hn
  unfold Oper.wp
  simp [execOp, hop, hm, hx, hv, hrun, Result.andThen]
  exact hK' _ _ (hK w' r1 r2)
end
abbrev Hd := Option Addr × Nat × Nat
def hdv (x : Hd) : Value := .slice x.1 x.2.1 x.2.2
abbrev kH : Kd Hd := Kd.scalar hdv (fun _ => rfl)
def HdOf (W : World) (h : Hd) (x : List Int) : Prop := h.2.1 = x.length ∧ x.length ≤ h.2.2 ∧ Kd.C (Kd.int .i64) W h.1 x.length x
def HdsOf (W : World) (hs : List Hd) (xs : List (List Int)) : Prop := hs.length = xs.length ∧ ∀ (i : Nat) (h : Hd) (x : List Int), hs[i]? = some h → xs[i]? = some x → HdOf W h x
theorem HdsOf.below {W W' : World} {hs : List Hd} {xs : List (List Int)} (h : HdsOf W hs xs) (hb : Below W.heap.size W W') : HdsOf W' hs xs :=
  ⟨h.1, fun i a b ha hb' => ⟨(h.2 i a b ha hb').1, (h.2 i a b ha hb').2.1, Kd.C_below (h.2 i a b ha hb').2.2 hb⟩⟩
theorem HdsOf.add {W : World} {hs : List Hd} {xs : List (List Int)} {h : Hd} {x : List Int} (H : HdsOf W hs xs) (h1 : HdOf W h x) : HdsOf W (hs ++ [h]) (xs ++ [x]) := by
  refine ⟨by simp [H.1], fun i a b ha hb => ?_⟩
  rw [List.getElem?_append] at ha hb
  rw [H.1] at ha
  split at ha
  · rename_i hlt
    rw [if_pos hlt] at hb
    exact H.2 i a b ha hb
  · rename_i hlt
    rw [if_neg hlt] at hb
    have h0 : i - xs.length = 0 := by have := (List.getElem?_eq_some_iff.1 hb).1; simp at this; omega
    rw [h0] at ha hb
    simp at ha hb
    rw [← ha, ← hb]
    exact h1
structure Eng where
  n : Int
  cls : List (List Int)
  wt : Int → List Int
  ws : Nat
  tr : List Int
  ms : Int → Option (Int × Int)
  st : List Int
  br : Int
def Eng.Lits (E : Eng) : Prop := ∀ c ∈ E.cls, ∀ x ∈ c, (Lit.int .i64 x).wf = true
structure EngP where
  vC : Value
  hs : List Hd
  vT : Value
  vS : Value
  bw : Nat
  bm : Nat
  fw : Int → Option Value
def EngCells (E : Eng) (p : EngP) : Array Value := #[.int .i64 E.n, p.vC, .map (some p.bw), p.vT, .map (some p.bm), p.vS, .int .i64 E.br]
def mkV (f : Int → Option (Int × Int)) (x : Int) : Option Value := (f x).map fun q => .agg #[.int .i64 q.1, .int .i64 q.2]
abbrev Tag := Nat → Int × Int
structure EngIn (w : World) (B : Nat) (T : Tag) (E : Eng) (p : EngP) : Prop where
  fresh : ∀ k, w.heap.size ≤ k → T k = (0, 0)
  blk : w.heap[B]? = some (.cells (EngCells E p) 71 (0, 0))
  tB : T B = (1, 0)
  cls : Kd.R kH 37 w 0 (fun k => T k = (2, 0)) p.vC p.hs
  len : p.hs.length = E.cls.length
  rows : ∀ (i : Nat) (h : Hd) (c : List Int), p.hs[i]? = some h → E.cls[i]? = some c → Kd.R (Kd.int .i64) 3 w 0 (fun k => T k = (3, 0)) (hdv h) c
  tr : Kd.R (Kd.int .i64) 3 w 0 (fun k => T k = (4, 0)) p.vT E.tr
  st : Kd.R (Kd.int .i64) 3 w 0 (fun k => T k = (5, 0)) p.vS E.st
  ms : MapI Try.prog 3 w p.bm (mkV E.ms)
  tM : T p.bm = (6, 0)
  mst : ∀ x, (E.ms x).isSome = true → x ∈ E.tr
  wt : MapI Try.prog 3 w p.bw p.fw
  tW : T p.bw = (7, 0)
  grp : ∀ x, Kd.R (Kd.int .i64) 3 w 0 (fun k => T k = (8, x)) ((p.fw x).getD (.slice none 0 0)) (E.wt x)
  cov : ∃ L : List Int, (∀ x, (p.fw x).isSome = true → x ∈ L) ∧ L.length ≤ E.ws
  wsz : ∀ x, (E.wt x).length ≤ E.ws
structure Moved (T T' : Tag) (W W' : World) : Prop where
  os : W'.os = W.os
  tape : W'.tape = W.tape
  output : W'.output = W.output
  size : W.heap.size ≤ W'.heap.size
  old : ∀ k, k < W.heap.size → T' k = T k ∧ (T k = (0, 0) → W'.heap[k]? = W.heap[k]?)
def EngPost (B : Nat) (T : Tag) (p : EngP) (E' : Eng) (W W' : World) : Prop := ∃ T' p', EngIn W' B T' E' p' ∧ Moved T T' W W' ∧ p'.fw = p.fw
theorem Moved.refl (T : Tag) (W : World) : Moved T T W W := ⟨rfl, rfl, rfl, Nat.le_refl _, fun _ _ => ⟨rfl, fun _ => rfl⟩⟩
theorem Moved.trans {T T' T'' : Tag} {W W' W'' : World} (h : Moved T T' W W') (k : Moved T' T'' W' W'') : Moved T T'' W W'' :=
  ⟨k.os.trans h.os, k.tape.trans h.tape, k.output.trans h.output, Nat.le_trans h.size k.size, fun i hi => by
    obtain ⟨a1, a2⟩ := h.old i hi
    obtain ⟨b1, b2⟩ := k.old i (Nat.lt_of_lt_of_le hi h.size)
    exact ⟨b1.trans a1, fun e => (b2 (a1.trans e)).trans (a2 e)⟩⟩
theorem Moved.of_below {T : Tag} {W W' : World} (h : Below W.heap.size W W') : Moved T T W W' := ⟨h.os, h.tape, h.output, h.size, fun k hk => ⟨rfl, fun _ => h.block k hk⟩⟩
theorem Moved.below {T T' : Tag} {W W' : World} (h : Moved T T' W W') (n : Nat) (hn : n ≤ W.heap.size) (h0 : ∀ k, k < n → T k = (0, 0)) : Below n W W' := ⟨h.os, h.tape, h.output, h.size, fun k hk => (h.old k (by omega)).2 (h0 k hk)⟩
section
variable {α : Type} {d : Kd α} {e : Nat} {w w1 : World} {T T' : Tag} {t : Int × Int} {v : Value} {xs : List α}
theorem R_tag (h : d.R e w 0 (fun k => T k = t) v xs) (hm : ∀ k, k < w.heap.size → T k = t → w1.heap[k]? = w.heap[k]?) (hT : ∀ k, k < w.heap.size → T' k = T k) : d.R e w1 0 (fun k => T' k = t) v xs := by
  have h1 := Kd.R_bound h
  have h2 := Kd.R_step h1 (w1 := w1) (fun k hk hlt => hm k hlt hk.1)
  exact Kd.R_mono h2 (fun k hk => (hT k hk.2.2.1).trans hk.1)
end
def retag (T : Tag) (W : World) (v : Value) (t : Int × Int) : Tag := fun k => if W.heap.size ≤ k ∧ v.ownBlock = some k then t else T k
theorem retag_old {T : Tag} {W : World} {v : Value} {t : Int × Int} (k : Nat) (hk : k < W.heap.size) : retag T W v t k = T k := if_neg (fun h => by omega)
theorem R_retag {α : Type} {enc : α → Value} {h1 : ∀ x, (enc x).oneCell' = true} {e : Nat} {W w1 : World} {T : Tag} {t : Int × Int} {v : Value} {xs : List α} {ok : Nat → Prop} (h : (Kd.scalar enc h1).R e w1 0 ok v xs) (hok : ∀ k, ok k → k < W.heap.size → T k = t) : (Kd.scalar enc h1).R e w1 0 (fun k => retag T W v t k = t) v xs := by
  refine Kd.R_of_own (Kd.own_of_R h) (fun k hk => ?_)
  unfold retag
  by_cases hlt : k < W.heap.size
  · rw [if_neg (fun h => by omega)]
    exact hok k (h.1 k hk) hlt
  · rw [if_pos ⟨by omega, hk⟩]
section
variable {w w1 : World} {B : Nat} {T : Tag} {E : Eng} {p : EngP}
theorem EngIn.below (h : EngIn w B T E p) (hb : Below w.heap.size w w1) : EngIn w1 B T E p where
  fresh k hk := h.fresh k (Nat.le_trans hb.size hk)
  blk := blk_below h.blk hb
  tB := h.tB
  cls := Kd.R_below h.cls hb
  len := h.len
  rows i a c ha hc := Kd.R_below (h.rows i a c ha hc) hb
  tr := Kd.R_below h.tr hb
  st := Kd.R_below h.st hb
  ms := h.ms.block (hb.block _ h.ms.lt)
  tM := h.tM
  mst := h.mst
  wt := h.wt.block (hb.block _ h.wt.lt)
  tW := h.tW
  grp x := Kd.R_below (h.grp x) hb
  cov := h.cov
  wsz := h.wsz
theorem EngIn.lt (h : EngIn w B T E p) : B < w.heap.size := blk_lt h.blk
theorem EngIn.cells (h : EngIn w B T E p) : w.cell? ⟨B, 0, none⟩ = some (.int .i64 E.n) ∧ w.cell? ⟨B, 1, none⟩ = some p.vC ∧ w.cell? ⟨B, 2, none⟩ = some (.map (some p.bw)) ∧ w.cell? ⟨B, 3, none⟩ = some p.vT ∧ w.cell? ⟨B, 4, none⟩ = some (.map (some p.bm)) ∧ w.cell? ⟨B, 5, none⟩ = some p.vS ∧ w.cell? ⟨B, 6, none⟩ = some (.int .i64 E.br) ∧ ∀ i, w.frozen? ⟨B, i, none⟩ = false :=
  ⟨blk_cell h.blk 0, blk_cell h.blk 1, blk_cell h.blk 2, blk_cell h.blk 3, blk_cell h.blk 4, blk_cell h.blk 5, blk_cell h.blk 6, fun i => blk_frozen h.blk i⟩
theorem tag_ne {a b : Int} (h : a ≠ b) (x y : Int) : ((a, x) : Int × Int) ≠ (b, y) := fun e => h (congrArg Prod.fst e)
theorem EngIn.kept {T' : Tag} (S : Int × Int → Prop) (h : EngIn w B T E p) (hm : ∀ k, k < w.heap.size → ¬ S (T k) → w1.heap[k]? = w.heap[k]?) (hT : ∀ k, k < w.heap.size → T' k = T k) :
    (¬ S (1, 0) → w1.heap[B]? = some (.cells (EngCells E p) 71 (0, 0))) ∧ T' B = (1, 0) ∧ (¬ S (2, 0) → Kd.R kH 37 w1 0 (fun k => T' k = (2, 0)) p.vC p.hs) ∧
    (¬ S (3, 0) → ∀ (i : Nat) (a : Hd) (c : List Int), p.hs[i]? = some a → E.cls[i]? = some c → Kd.R (Kd.int .i64) 3 w1 0 (fun k => T' k = (3, 0)) (hdv a) c) ∧
    (¬ S (4, 0) → Kd.R (Kd.int .i64) 3 w1 0 (fun k => T' k = (4, 0)) p.vT E.tr) ∧ (¬ S (5, 0) → Kd.R (Kd.int .i64) 3 w1 0 (fun k => T' k = (5, 0)) p.vS E.st) ∧
    (¬ S (6, 0) → MapI Try.prog 3 w1 p.bm (mkV E.ms)) ∧ T' p.bm = (6, 0) ∧ (¬ S (7, 0) → MapI Try.prog 3 w1 p.bw p.fw) ∧ T' p.bw = (7, 0) ∧
    (∀ x, ¬ S (8, x) → Kd.R (Kd.int .i64) 3 w1 0 (fun k => T' k = (8, x)) ((p.fw x).getD (.slice none 0 0)) (E.wt x)) := by
  have hr : ∀ {α : Type} {d : Kd α} {e : Nat} {u : Int × Int} {v : Value} {xs : List α}, d.R e w 0 (fun k => T k = u) v xs → ¬ S u → d.R e w1 0 (fun k => T' k = u) v xs := fun hr hne =>
    R_tag hr (fun k hk e => hm k hk (fun e' => hne (e ▸ e'))) hT
  exact ⟨fun hne => (hm B h.lt (by rw [h.tB]; exact hne)).trans h.blk, (hT B h.lt).trans h.tB, hr h.cls, fun hne i a c ha hc => hr (h.rows i a c ha hc) hne, hr h.tr, hr h.st,
    fun hne => h.ms.block (hm _ h.ms.lt (by rw [h.tM]; exact hne)), (hT _ h.ms.lt).trans h.tM, fun hne => h.wt.block (hm _ h.wt.lt (by rw [h.tW]; exact hne)), (hT _ h.wt.lt).trans h.tW, fun x hne => hr (h.grp x) hne⟩
theorem grown_store {W W1 : World} {T : Tag} {v : Value} {t : Int × Int} (hg : W.grownBy W1 v.ownBlock) (hv : ∀ k, v.ownBlock = some k → T k = t) (hB : B < W.heap.size) (tB : T B = (1, 0)) (i : Nat) (u : Value) :
    (∀ k, k < W.heap.size → ¬ (T k = (1, 0) ∨ T k = t) → (W1.setCell ⟨B, i, none⟩ u).heap[k]? = W.heap[k]?) ∧ (W1.setCell ⟨B, i, none⟩ u).heap.size = W1.heap.size ∧ W.heap.size ≤ W1.heap.size := by
  refine ⟨fun k hk hn => ?_, by simp, hg.size⟩
  rw [Below.heap_setCell W1 _ u k (fun e => hn (.inl (by rw [e]; exact tB)))]
  exact hg.block k hk (fun e => hn (.inr (hv k e.symm)))
theorem blk_after {W W1 : World} {v : Value} {t : Int × Int} {cs cs' : Array Value} {tt : Nat} (hb : W.heap[B]? = some (.cells cs tt (0, 0))) (hg : W.grownBy W1 v.ownBlock) (hv : ∀ k, v.ownBlock = some k → T k = t) (tB : T B = (1, 0)) (hne : t ≠ (1, 0)) (i : Nat) (u : Value) (e : cs.setIfInBounds i u = cs') :
    (W1.setCell ⟨B, i, none⟩ u).heap[B]? = some (.cells cs' tt (0, 0)) := blk_put (blk_grown hb hg (fun e' => hne ((hv B e'.symm).symm.trans tB))) i u e
theorem R_far_set {α : Type} {d : Kd α} {e : Nat} {W : World} {T : Tag} {t : Int × Int} {v : Value} {xs : List α} (h : d.R e W 0 (fun k => T k = t) v xs) (tB : T B = (1, 0)) (hne : t ≠ (1, 0)) (i : Nat) (u : Value) : d.R e (W.setCell ⟨B, i, none⟩ u) 0 (fun k => T k = t) v xs :=
  Kd.R_far h (fun k hk e => hne (by rw [← hk, e]; exact tB)) u
theorem moved_grown {W W2 : World} {T' : Tag} {t : Int × Int} (hfr : W2.os = W.os ∧ W2.tape = W.tape ∧ W2.output = W.output) (hs : W.heap.size ≤ W2.heap.size) (hm : ∀ k, k < W.heap.size → ¬ (T k = (1, 0) ∨ T k = t) → W2.heap[k]? = W.heap[k]?) (hT : ∀ k, k < W.heap.size → T' k = T k) (ht : t ≠ (0, 0)) : Moved T T' W W2 :=
  ⟨hfr.1, hfr.2.1, hfr.2.2, hs, fun k hk => ⟨hT k hk, fun e => hm k hk (fun h => h.elim (fun h => by rw [e] at h; exact absurd h (by decide)) (fun h => ht (h.symm.trans e)))⟩⟩
theorem EngIn.turn_tr (h : EngIn w B T E p) {v1 : Value} {ys : List Int} (hR : Kd.R (Kd.int .i64) 3 w1 0 (fun k => T k = (4, 0) ∨ w.heap.size ≤ k) v1 ys) (hg : w.grownBy w1 p.vT.ownBlock) (hk : ∀ x, (E.ms x).isSome = true → x ∈ ys) :
    EngIn (w1.setCell ⟨B, 3, none⟩ v1) B (retag T w v1 (4, 0)) { E with tr := ys } { p with vT := v1 } ∧ Moved T (retag T w v1 (4, 0)) w (w1.setCell ⟨B, 3, none⟩ v1) := by
  have hv := h.tr.1
  obtain ⟨hm, hs1, hs2⟩ := grown_store hg hv h.lt h.tB 3 v1
  have hT : ∀ k, k < w.heap.size → retag T w v1 (4, 0) k = T k := retag_old
  obtain ⟨k1, k2, k3, k4, k5, k6, k7, k8, k9, k10, k11⟩ := h.kept (S := fun t => t = (1, 0) ∨ t = (4, 0)) hm hT
  have no : ∀ {a b : Int}, a ≠ 1 → a ≠ 4 → ¬ (((a, b) : Int × Int) = (1, 0) ∨ ((a, b) : Int × Int) = (4, 0)) := fun h1 h4 e => e.elim (fun e => h1 (congrArg Prod.fst e)) (fun e => h4 (congrArg Prod.fst e))
  have hR1 := R_retag (W := w) hR (fun k hk hlt => hk.resolve_right (by omega))
  refine ⟨{ fresh := fun k hk => ?_, blk := blk_after h.blk hg hv h.tB (by decide) 3 v1 rfl, tB := k2, cls := k3 (no (by decide) (by decide)), len := h.len, rows := k4 (no (by decide) (by decide)), tr := R_far_set hR1 k2 (by decide) 3 v1, st := k6 (no (by decide) (by decide)), ms := k7 (no (by decide) (by decide)), tM := k8, mst := hk, wt := k9 (no (by decide) (by decide)), tW := k10, grp := fun x => k11 x (no (by decide) (by decide)), cov := h.cov, wsz := h.wsz }, moved_grown ⟨hg.os, hg.tape, hg.output⟩ (by rw [hs1]; exact hs2) hm hT (by decide)⟩
  rw [hs1] at hk
  unfold retag
  rw [if_neg, h.fresh k (by omega)]
  rintro ⟨_, e⟩
  obtain ⟨inner, ho⟩ := Kd.R_own hR
  have := own_lt ho k e
  omega
theorem EngIn.turn_st (h : EngIn w B T E p) {v1 : Value} {ys : List Int} (hR : Kd.R (Kd.int .i64) 3 w1 0 (fun k => T k = (5, 0) ∨ w.heap.size ≤ k) v1 ys) (hg : w.grownBy w1 p.vS.ownBlock) :
    EngIn (w1.setCell ⟨B, 5, none⟩ v1) B (retag T w v1 (5, 0)) { E with st := ys } { p with vS := v1 } ∧ Moved T (retag T w v1 (5, 0)) w (w1.setCell ⟨B, 5, none⟩ v1) := by
  have hv := h.st.1
  obtain ⟨hm, hs1, hs2⟩ := grown_store hg hv h.lt h.tB 5 v1
  have hT : ∀ k, k < w.heap.size → retag T w v1 (5, 0) k = T k := retag_old
  obtain ⟨k1, k2, k3, k4, k5, k6, k7, k8, k9, k10, k11⟩ := h.kept (S := fun t => t = (1, 0) ∨ t = (5, 0)) hm hT
  have no : ∀ {a b : Int}, a ≠ 1 → a ≠ 5 → ¬ (((a, b) : Int × Int) = (1, 0) ∨ ((a, b) : Int × Int) = (5, 0)) := fun h1 h4 e => e.elim (fun e => h1 (congrArg Prod.fst e)) (fun e => h4 (congrArg Prod.fst e))
  have hR1 := R_retag (W := w) hR (fun k hk hlt => hk.resolve_right (by omega))
  refine ⟨{ fresh := fun k hk => ?_, blk := blk_after h.blk hg hv h.tB (by decide) 5 v1 rfl, tB := k2, cls := k3 (no (by decide) (by decide)), len := h.len, rows := k4 (no (by decide) (by decide)), tr := k5 (no (by decide) (by decide)), st := R_far_set hR1 k2 (by decide) 5 v1, ms := k7 (no (by decide) (by decide)), tM := k8, mst := h.mst, wt := k9 (no (by decide) (by decide)), tW := k10, grp := fun x => k11 x (no (by decide) (by decide)), cov := h.cov, wsz := h.wsz }, moved_grown ⟨hg.os, hg.tape, hg.output⟩ (by rw [hs1]; exact hs2) hm hT (by decide)⟩
  rw [hs1] at hk
  unfold retag
  rw [if_neg, h.fresh k (by omega)]
  rintro ⟨_, e⟩
  obtain ⟨inner, ho⟩ := Kd.R_own hR
  have := own_lt ho k e
  omega
theorem EngIn.turn_cls (h : EngIn w B T E p) {v1 : Value} {a : Hd} {c : List Int} (hc : Kd.R (Kd.int .i64) 3 w 0 (fun k => T k = (3, 0)) (hdv a) c) (hR : Kd.R kH 37 w1 0 (fun k => T k = (2, 0) ∨ w.heap.size ≤ k) v1 (p.hs ++ [a])) (hg : w.grownBy w1 p.vC.ownBlock) :
    EngIn (w1.setCell ⟨B, 1, none⟩ v1) B (retag T w v1 (2, 0)) { E with cls := E.cls ++ [c] } { p with vC := v1, hs := p.hs ++ [a] } ∧ Moved T (retag T w v1 (2, 0)) w (w1.setCell ⟨B, 1, none⟩ v1) := by
  have hv := h.cls.1
  obtain ⟨hm, hs1, hs2⟩ := grown_store hg hv h.lt h.tB 1 v1
  have hT : ∀ k, k < w.heap.size → retag T w v1 (2, 0) k = T k := retag_old
  obtain ⟨k1, k2, k3, k4, k5, k6, k7, k8, k9, k10, k11⟩ := h.kept (S := fun t => t = (1, 0) ∨ t = (2, 0)) hm hT
  have no : ∀ {a b : Int}, a ≠ 1 → a ≠ 2 → ¬ (((a, b) : Int × Int) = (1, 0) ∨ ((a, b) : Int × Int) = (2, 0)) := fun h1 h4 e => e.elim (fun e => h1 (congrArg Prod.fst e)) (fun e => h4 (congrArg Prod.fst e))
  have hR1 := R_retag (W := w) hR (fun k hk hlt => hk.resolve_right (by omega))
  have hc1 : Kd.R (Kd.int .i64) 3 (w1.setCell ⟨B, 1, none⟩ v1) 0 (fun k => retag T w v1 (2, 0) k = (3, 0)) (hdv a) c := R_tag hc (fun k hk e => hm k hk (by rw [e]; exact no (by decide) (by decide))) hT
  refine ⟨{ fresh := fun k hk => ?_, blk := blk_after h.blk hg hv h.tB (by decide) 1 v1 rfl, tB := k2, cls := R_far_set hR1 k2 (by decide) 1 v1, len := by simp [h.len], rows := fun i b d hb hd => ?_, tr := k5 (no (by decide) (by decide)), st := k6 (no (by decide) (by decide)), ms := k7 (no (by decide) (by decide)), tM := k8, mst := h.mst, wt := k9 (no (by decide) (by decide)), tW := k10, grp := fun x => k11 x (no (by decide) (by decide)), cov := h.cov, wsz := h.wsz }, moved_grown ⟨hg.os, hg.tape, hg.output⟩ (by rw [hs1]; exact hs2) hm hT (by decide)⟩
  · rw [hs1] at hk
    unfold retag
    rw [if_neg, h.fresh k (by omega)]
    rintro ⟨_, e⟩
    obtain ⟨inner, ho⟩ := Kd.R_own hR
    have := own_lt ho k e
    omega
  · have hb : (p.hs ++ [a])[i]? = some b := hb
    have hd : (E.cls ++ [c])[i]? = some d := hd
    rw [List.getElem?_append] at hb hd
    rw [h.len] at hb
    split at hb
    · rename_i hlt
      rw [if_pos hlt] at hd
      exact k4 (no (by decide) (by decide)) i b d hb hd
    · rename_i hlt
      rw [if_neg hlt] at hd
      have h0 : i - E.cls.length = 0 := by have := (List.getElem?_eq_some_iff.1 hd).1; simp at this; omega
      rw [h0] at hb hd
      simp at hb hd
      rw [← hb, ← hd]
      exact hc1
theorem EngIn.turn_br (h : EngIn w B T E p) (n : Int) : EngIn (w.setCell ⟨B, 6, none⟩ (.int .i64 n)) B T { E with br := n } p ∧ Moved T T w (w.setCell ⟨B, 6, none⟩ (.int .i64 n)) := by
  have hg : w.grownBy w (Value.slice none 0 0).ownBlock := ⟨rfl, rfl, rfl, Nat.le_refl _, fun _ _ _ => rfl⟩
  obtain ⟨hm, hs1, hs2⟩ := grown_store (t := (1, 0)) hg (fun k hk => by simp [Value.ownBlock] at hk) h.lt h.tB 6 (.int .i64 n)
  obtain ⟨k1, k2, k3, k4, k5, k6, k7, k8, k9, k10, k11⟩ := h.kept (S := fun t => t = (1, 0) ∨ t = (1, 0)) hm (fun _ _ => rfl)
  have no : ∀ {a b : Int}, a ≠ 1 → ¬ (((a, b) : Int × Int) = (1, 0) ∨ ((a, b) : Int × Int) = (1, 0)) := fun h1 e => e.elim (fun e => h1 (congrArg Prod.fst e)) (fun e => h1 (congrArg Prod.fst e))
  exact ⟨{ fresh := fun k hk => h.fresh k (by rw [hs1] at hk; exact hk), blk := blk_put h.blk 6 _ rfl, tB := k2, cls := k3 (no (by decide)), len := h.len, rows := k4 (no (by decide)), tr := k5 (no (by decide)), st := k6 (no (by decide)), ms := k7 (no (by decide)), tM := k8, mst := h.mst, wt := k9 (no (by decide)), tW := k10, grp := fun x => k11 x (no (by decide)), cov := h.cov, wsz := h.wsz }, moved_grown (t := (1, 0)) ⟨rfl, rfl, rfl⟩ (by rw [hs1]; exact Nat.le_refl _) hm (fun _ _ => rfl) (by decide)⟩
theorem EngIn.turn_ms (h : EngIn w B T E p) {g : Int → Option (Int × Int)} (hM : MapI Try.prog 3 w1 p.bm (mkV g)) (hg : w.grownBy w1 (some p.bm)) (hk : ∀ x, (g x).isSome = true → x ∈ E.tr) :
    EngIn w1 B T { E with ms := g } p ∧ Moved T T w w1 := by
  have hm : ∀ k, k < w.heap.size → ¬ (T k = (6, 0)) → w1.heap[k]? = w.heap[k]? := fun k hk hn => hg.block k hk (fun e => hn (by injection e with e; rw [e]; exact h.tM))
  obtain ⟨k1, k2, k3, k4, k5, k6, k7, k8, k9, k10, k11⟩ := h.kept (S := fun t => t = (6, 0)) hm (fun _ _ => rfl)
  have no : ∀ {a b : Int}, a ≠ 6 → ¬ (((a, b) : Int × Int) = (6, 0)) := fun h1 e => h1 (congrArg Prod.fst e)
  exact ⟨{ fresh := fun k hk => h.fresh k (Nat.le_trans hg.size hk), blk := k1 (no (by decide)), tB := k2, cls := k3 (no (by decide)), len := h.len, rows := k4 (no (by decide)), tr := k5 (no (by decide)), st := k6 (no (by decide)), ms := hM, tM := k8, mst := hk, wt := k9 (no (by decide)), tW := k10, grp := fun x => k11 x (no (by decide)), cov := h.cov, wsz := h.wsz }, ⟨hg.os, hg.tape, hg.output, hg.size, fun k hk => ⟨rfl, fun e => hm k hk (by rw [e]; decide)⟩⟩⟩
theorem EngIn.turn_wt (h : EngIn w B T E p) {w2 : World} {x : Int} {v1 : Value} {ys : List Int} (hR : Kd.R (Kd.int .i64) 3 w1 0 (fun k => T k = (8, x) ∨ w.heap.size ≤ k) v1 ys) (hg : w.grownBy w1 ((p.fw x).getD (.slice none 0 0)).ownBlock)
    (hM : MapI Try.prog 3 w2 p.bw (setI p.fw x (some v1))) (hg2 : w1.grownBy w2 (some p.bw)) (hys : ys.length ≤ E.ws + 1) :
    EngIn w2 B (retag T w v1 (8, x)) { E with wt := fun y => if y = x then ys else E.wt y, ws := E.ws + 1 } { p with fw := setI p.fw x (some v1) } ∧ Moved T (retag T w v1 (8, x)) w w2 ∧
      (∀ {v : Value} {zs : List Int}, Kd.R (Kd.int .i64) 3 w 0 (fun k => T k = (3, 0)) v zs → Kd.R (Kd.int .i64) 3 w2 0 (fun k => retag T w v1 (8, x) k = (3, 0)) v zs) := by
  have hv := (h.grp x).1
  have hs2 := Nat.le_trans hg.size hg2.size
  have hm : ∀ k, k < w.heap.size → ¬ (T k = (7, 0) ∨ T k = (8, x)) → w2.heap[k]? = w.heap[k]? := fun k hk hn =>
    (hg2.block k (Nat.lt_of_lt_of_le hk hg.size) (fun e => hn (.inl (by injection e with e; rw [e]; exact h.tW)))).trans (hg.block k hk (fun e => hn (.inr (hv k e.symm))))
  have hT : ∀ k, k < w.heap.size → retag T w v1 (8, x) k = T k := retag_old
  obtain ⟨k1, k2, k3, k4, k5, k6, k7, k8, k9, k10, k11⟩ := h.kept (S := fun t => t = (7, 0) ∨ t = (8, x)) hm hT
  have no : ∀ {a b : Int}, a ≠ 7 → a ≠ 8 → ¬ (((a, b) : Int × Int) = (7, 0) ∨ ((a, b) : Int × Int) = (8, x)) := fun h1 h4 e => e.elim (fun e => h1 (congrArg Prod.fst e)) (fun e => h4 (congrArg Prod.fst e))
  have hR1 := R_retag (W := w) hR (fun k hk hlt => hk.resolve_right (by omega))
  have hlw : p.bw < w.heap.size := h.wt.lt
  have hR2 : Kd.R (Kd.int .i64) 3 w2 0 (fun k => retag T w v1 (8, x) k = (8, x)) v1 ys := Kd.R_grown hR1 hg2 (fun k hk e => by
    injection e with e
    rw [e, retag_old _ hlw, h.tW] at hk
    exact absurd (congrArg Prod.fst hk) (show (7 : Int) ≠ 8 by decide))
  refine ⟨{ fresh := fun k hk => ?_, blk := k1 (no (by decide) (by decide)), tB := k2, cls := k3 (no (by decide) (by decide)), len := h.len, rows := k4 (no (by decide) (by decide)), tr := k5 (no (by decide) (by decide)), st := k6 (no (by decide) (by decide)), ms := k7 (no (by decide) (by decide)), tM := k8, mst := h.mst, wt := hM, tW := k10, grp := fun y => ?_, cov := ?_, wsz := fun y => ?_ }, ⟨hg2.os.trans hg.os, hg2.tape.trans hg.tape, hg2.output.trans hg.output, hs2, fun k hk => ⟨hT k hk, fun e => hm k hk (by rw [e]; exact no (by decide) (by decide))⟩⟩, fun hz => R_tag hz (fun k hk e => hm k hk (by rw [e]; exact no (by decide) (by decide))) hT⟩
  · unfold retag
    rw [if_neg, h.fresh k (by omega)]
    rintro ⟨_, e⟩
    obtain ⟨inner, ho⟩ := Kd.R_own hR2
    have := own_lt ho k e
    omega
  · show Kd.R (Kd.int .i64) 3 w2 0 (fun k => retag T w v1 (8, x) k = (8, y)) ((setI p.fw x (some v1) y).getD (.slice none 0 0)) (if y = x then ys else E.wt y)
    unfold setI
    by_cases e : y = x
    · subst e
      rw [if_pos rfl, if_pos rfl]
      exact hR2
    · rw [if_neg e, if_neg e]
      exact k11 y (fun h => h.elim (fun h => absurd (congrArg Prod.fst h) (show (8 : Int) ≠ 7 by decide)) (fun h => e (congrArg Prod.snd h)))
  · obtain ⟨L, hL, hl⟩ := h.cov
    refine ⟨x :: L, fun y hy => ?_, by simp; omega⟩
    have hy : (setI p.fw x (some v1) y).isSome = true := hy
    unfold setI at hy
    by_cases e : y = x
    · rw [e]; simp
    · rw [if_neg e] at hy
      exact List.mem_cons_of_mem _ (hL y hy)
  · show (if y = x then ys else E.wt y).length ≤ E.ws + 1
    split
    · exact hys
    · have := h.wsz y; omega
theorem EngIn.newrow (h : EngIn w B T E p) (hb : Below w.heap.size w w1) {ok : Nat → Prop} {v : Value} {c : List Int} (hR : Kd.R (Kd.int .i64) 3 w1 w.heap.size ok v c) :
    EngIn w1 B (retag T w v (3, 0)) E p ∧ Moved T (retag T w v (3, 0)) w w1 ∧ Kd.R (Kd.int .i64) 3 w1 0 (fun k => retag T w v (3, 0) k = (3, 0)) v c := by
  have hT : ∀ k, k < w.heap.size → retag T w v (3, 0) k = T k := retag_old
  obtain ⟨k1, k2, k3, k4, k5, k6, k7, k8, k9, k10, k11⟩ := h.kept (S := fun _ => False) (fun k hk _ => hb.block k hk) hT
  have no : ¬ False := id
  obtain ⟨inner, ho⟩ := Kd.R_own hR
  refine ⟨{ fresh := fun k hk => ?_, blk := k1 no, tB := k2, cls := k3 no, len := h.len, rows := k4 no, tr := k5 no, st := k6 no, ms := k7 no, tM := k8, mst := h.mst, wt := k9 no, tW := k10, grp := fun x => k11 x no, cov := h.cov, wsz := h.wsz }, ⟨hb.os, hb.tape, hb.output, hb.size, fun k hk => ⟨hT k hk, fun _ => hb.block k hk⟩⟩, ?_⟩
  · unfold retag
    rw [if_neg, h.fresh k (Nat.le_trans hb.size hk)]
    rintro ⟨_, e⟩
    have := own_lt ho k e
    omega
  · refine Kd.R_of_own (Kd.own_of_R (Kd.R_lower hR (Nat.zero_le _))) (fun k hk => ?_)
    unfold retag
    exact if_pos ⟨own_base ho k hk, hk⟩
end
section
variable {P : Program} {ops : Array Oper} {o : Oper} {a : Act} {Q : Exit → Act → World → Prop} {K : Act → World → Prop} {W : World}
theorem step_store_I (hw : Region.wanted o (yielded ops a.tmps) = true) (m x v : Operand) (t : TypeId) (hop : o.op = Op.mapUpdate t m x v) (k e : TypeId) (hk : P.underlying k = some (.int .i64)) (ht : P.underlying t = some (.map k e)) (b : Nat) (f : Int → Option Value)
    (hm : a.eval m = .map (some b)) (h : MapI P k W b f) (y : Int) (val : Value) (hx : a.eval x = .int .i64 y) (hv : a.eval v = val) (hy : (Lit.int .i64 y).wf = true) (L : List Int) (hL : ∀ x, (f x).isSome = true → x ∈ L) (hn : L.length < 4611686018427387904)
    (hK : ∀ w', MapI P k w' b (setI f y (some val)) → W.grownBy w' (some b) → K (a.put o.dst undef) w') :
    if Region.wanted o (yielded ops a.tmps) = true then Oper.wp P o a W K Q else K (a.put o.dst undef) W := by
  rw [if_pos hw]
  obtain ⟨w', hrun, r1, r2⟩ := h.store hk ht hy val L hL hn
  unfold Oper.wp
  simp [execOp, hop, hm, hx, hv, hrun, Result.andThen]
  exact hK w' r1 r2
end
theorem EngIn.after {w w1 : World} {B : Nat} {T : Tag} {E : Eng} {p : EngP} (h : EngIn w B T E p) {v : Value} {t : Int × Int} (hv : ∀ k, v.ownBlock = some k → T k = t) (hne : t ≠ (1, 0)) (hg : w.grownBy w1 v.ownBlock) (i : Nat) : w1.cell? ⟨B, i, none⟩ = (EngCells E p)[i]? ∧ w1.frozen? ⟨B, i, none⟩ = false := by
  have hb := blk_grown h.blk hg (fun e => hne ((hv B e.symm).symm.trans h.tB))
  exact ⟨blk_cell hb i, blk_frozen hb i⟩
theorem zero_rowL (W : World) : (zeroValue 37).run Try.prog W = .ok (.slice none 0 0) W := by kernel_rfl
theorem EngIn.aside {w w1 : World} {B : Nat} {T : Tag} {E : Eng} {p : EngP} (h : EngIn w B T E p) (hs : w.heap.size ≤ w1.heap.size) (hm : ∀ k, k < w.heap.size → T k ≠ (0, 0) → w1.heap[k]? = w.heap[k]?) : EngIn w1 B T E p := by
  obtain ⟨k1, k2, k3, k4, k5, k6, k7, k8, k9, k10, k11⟩ := h.kept (S := fun t => t = (0, 0)) (T' := T) hm (fun _ _ => rfl)
  have no : ∀ {a b : Int}, a ≠ 0 → ¬ (((a, b) : Int × Int) = (0, 0)) := fun h1 e => h1 (congrArg Prod.fst e)
  exact { fresh := fun k hk => h.fresh k (Nat.le_trans hs hk), blk := k1 (no (by decide)), tB := k2, cls := k3 (no (by decide)), len := h.len, rows := k4 (no (by decide)), tr := k5 (no (by decide)), st := k6 (no (by decide)), ms := k7 (no (by decide)), tM := k8, mst := h.mst, wt := k9 (no (by decide)), tW := k10, grp := fun x => k11 x (no (by decide)), cov := h.cov, wsz := h.wsz }
theorem EngIn.grown {w w1 : World} {B : Nat} {T : Tag} {E : Eng} {p : EngP} (h : EngIn w B T E p) {o : Option Nat} (hg : w.grownBy w1 o) (hv : ∀ k, o = some k → T k = (0, 0)) : EngIn w1 B T E p :=
  h.aside hg.size (fun k hk hn => hg.block k hk (fun e => hn (hv k e.symm)))
theorem R_moved {α : Type} {d : Kd α} {e base : Nat} {W W' : World} {T T' : Tag} {Q : Nat → Prop} {v : Value} {xs : List α} (h : d.R e W base (fun k => T k = (0, 0) ∧ Q k) v xs) (m : Moved T T' W W') : d.R e W' base (fun k => T' k = (0, 0) ∧ Q k) v xs := by
  have h1 := Kd.R_bound h
  have h2 := Kd.R_step h1 (w1 := W') (fun k hk hlt => (m.old k hlt).2 hk.1.1)
  exact Kd.R_mono h2 (fun k hk => ⟨(m.old k hk.2.2.1).1.trans hk.1.1, hk.1.2⟩)
def Eng.val (E : Eng) (l : Int) : Int := if (E.ms l).isSome = true then 1 else if (E.ms (wrap64 (-l))).isSome = true then -1 else 0
theorem wf_wrap (l : Int) : (Lit.int .i64 (wrap64 (-l))).wf = true := by
  have a : IntKind.i64.min = -9223372036854775808 := by decide
  have b : IntKind.i64.max = 9223372036854775807 := by decide
  unfold Lit.wf wrap64
  rw [Bool.and_eq_true, decide_eq_true_eq, decide_eq_true_eq]
  omega
theorem zero_mark (W : World) : (zeroValue 104).run Try.prog W = .ok (.agg #[.int .i64 0, .int .i64 0]) W := by kernel_rfl
theorem EngIn.look {w : World} {B : Nat} {T : Tag} {E : Eng} {p : EngP} (h : EngIn w B T E p) {W : World} (hb : Below w.heap.size w W) {x : Int} (hx : (Lit.int .i64 x).wf = true) :
    (Instr.lookup 69 (.map (some p.bm)) (.int .i64 x) true).run Try.prog W = .ok (.tuple #[.agg #[.int .i64 ((E.ms x).getD (0, 0)).1, .int .i64 ((E.ms x).getD (0, 0)).2], .bool (E.ms x).isSome]) W := by
  have := (h.below hb).ms.look_ok Try.underlying3 Try.underlying69 (zero_mark W) hx
  rw [this]
  unfold mkV
  cases E.ms x <;> rfl
set_option maxRecDepth 100000 in
set_option maxHeartbeats 1000000 in
theorem eng_Value.calls (E : Eng) (B : Nat) (T : Tag) (p : EngP) (l : Int) (w : World) (h : EngIn w B T E p) (hl : (Lit.int .i64 l).wf = true) :
    Calls Try.prog 27 #[.pointer (some ⟨B, 0, none⟩), .int .i64 l] w fun e w' => e = .returned (.int .i64 (E.val l)) ∧ Below w.heap.size w w' := by
  have q1 := h.look (Below.refl _ w) hl
  have c4 := h.cells.2.2.2.2.1
  obtain ⟨m1, hm1⟩ : ∃ m, (E.ms l).getD (0, 0) = m := ⟨_, rfl⟩
  obtain ⟨m2, hm2⟩ : ∃ m, (E.ms (wrap64 (-l))).getD (0, 0) = m := ⟨_, rfl⟩
  have hb2 : Below w.heap.size w (w.alloc (.cells #[.int .i64 m1.1, .int .i64 m1.2] 104)) := below_alloc (Below.refl _ _) _
  have q2 := h.look hb2 (wf_wrap l)
  have c42 := (h.below hb2).cells.2.2.2.2.1
  have hu := Try.underlying104
  have P6 : IntKind.i64.wrap (-l) = wrap64 (-l) := Go.IntWalk.i64_left _
  rw [hm1] at q1
  rw [hm2] at q2
  unfold Eng.val
  obtain ⟨b1, e1⟩ : ∃ b, (E.ms l).isSome = b := ⟨_, rfl⟩
  obtain ⟨b2, e2⟩ : ∃ b, (E.ms (wrap64 (-l))).isSome = b := ⟨_, rfl⟩
  rw [e1] at q1 ⊢
  rw [e2] at q2 ⊢
  clear hm1 hm2 e1 e2
  cases b1 with
  | true =>
    go_enter Try.func27, Try.ntmps27
    go_wp2
    go_ret
    exact ⟨rfl, by first | exact hb2 | (repeat (first | exact Below.refl _ _ | apply below_alloc))⟩
  | false =>
    cases b2 with
    | true =>
      go_enter Try.func27, Try.ntmps27
      go_wp2
      go_ret
      exact ⟨rfl, by repeat (first | exact Below.refl _ _ | apply below_alloc)⟩
    | false =>
      go_enter Try.func27, Try.ntmps27
      go_wp2
      go_ret
      exact ⟨rfl, by repeat (first | exact Below.refl _ _ | apply below_alloc)⟩
set_option maxRecDepth 100000 in
theorem eng_Broken.calls (E : Eng) (B : Nat) (T : Tag) (p : EngP) (w : World) (h : EngIn w B T E p) :
    Calls Try.prog 24 #[.pointer (some ⟨B, 0, none⟩)] w fun e w' => e = .returned (.int .i64 E.br) ∧ w' = w := by
  have c2 := h.cells.2.2.1
  have c6 := h.cells.2.2.2.2.2.2.1
  have q2 := run_eql_map_nil (P := Try.prog) w 68 3 37 (some p.bw) Try.underlying68
  simp only [Option.isNone_some] at q2
  clear h
  go_enter Try.func24, Try.ntmps24
  go_wp2
  go_ret
  exact ⟨rfl, rfl⟩
def sequiturref17_Of.f (a0 : Int) : Option (Int) := if a0 < 0 then (some (wrap64 (-a0))) else (some a0)
def sequiturref17_is.f (a0 : Int) : Option (Bool) := if a0 = 0 then (some false) else (some (a0 != (-9223372036854775808)))
def sequiturref17_Has.l0 : Nat → List Int → Int → Int → Option (Bool)
  | 0, _, _, _ => none
  | k + 1, x0, x1, x5 => if x5 < (x0.length : Int) then ((sequiturref17_is.f x1).bind fun t136 => (if t136 = true then (if 0 ≤ x5 then (if (rd x0 x5) = x1 then (some true) else (sequiturref17_Has.l0 k x0 x1 (wrap64 (x5 + 1)))) else (none)) else (sequiturref17_Has.l0 k x0 x1 (wrap64 (x5 + 1))))) else (some false)
def sequiturref17_Has.f (k : Nat) (l0 : List Int) (a1 : Int) : Option (Bool) := sequiturref17_Has.l0 k l0 a1 0
theorem sequiturref17_Has.mono_l : ∀ k, (∀ y0 y1 y2, LeO (sequiturref17_Has.l0 k y0 y1 y2) (sequiturref17_Has.l0 (k + 1) y0 y1 y2))
  | 0 => fun _ _ _ r h => by simp [sequiturref17_Has.l0] at h
  | k + 1 => by
    have ih0 := sequiturref17_Has.mono_l k
    · intro y0 y1 y2
      unfold sequiturref17_Has.l0
      repeat' first
      | (with_reducible exact ih0 _ _ _)
      | (with_reducible exact LeO.refl _)
      | (with_reducible exact LeO.none _)
      | (with_reducible refine LeO.ite ?_ ?_)
      | (with_reducible refine LeO.bind ?_ (fun _ => ?_))
      | exact ih0 _ _ _
      | exact LeO.none _
      | refine LeO.ite ?_ ?_
      | refine LeO.bind ?_ (fun _ => ?_)
theorem sequiturref17_Has.mono : ∀ a0 a1 k, LeO (sequiturref17_Has.f k a0 a1) (sequiturref17_Has.f (k + 1) a0 a1) := by
  intro a0 a1 k
  have ih0 := sequiturref17_Has.mono_l k
  unfold sequiturref17_Has.f
  repeat' first
      | (with_reducible exact ih0 _ _ _)
      | (with_reducible exact LeO.refl _)
      | (with_reducible exact LeO.none _)
      | (with_reducible refine LeO.ite ?_ ?_)
      | (with_reducible refine LeO.bind ?_ (fun _ => ?_))
      | exact ih0 _ _ _
      | exact LeO.none _
      | refine LeO.ite ?_ ?_
      | refine LeO.bind ?_ (fun _ => ?_)
set_option maxRecDepth 100000 in
theorem eng_Levels.calls (E : Eng) (B : Nat) (T : Tag) (p : EngP) (w : World) (h : EngIn w B T E p) :
    Calls Try.prog 26 #[.pointer (some ⟨B, 0, none⟩)] w fun e w' => e = .returned (.int .i64 (E.st.length : Int)) ∧ w' = w := by
  have c5 := h.cells.2.2.2.2.2.1
  obtain ⟨A5, n5, e5⟩ := Kd.R_slice h.st
  rw [e5] at c5
  clear h e5
  go_enter Try.func26, Try.ntmps26
  go_wp2
  go_ret
  exact ⟨rfl, rfl⟩
def Eng.markV (E : Eng) (v : Int) : Option (Int × Int) := if v ≤ 0 then none else if (E.ms v).isSome = true then E.ms v else E.ms (wrap64 (-v))
set_option maxRecDepth 100000 in
set_option maxHeartbeats 2000000 in
theorem eng_mark.calls (E : Eng) (B : Nat) (T : Tag) (p : EngP) (v : Int) (w : World) (h : EngIn w B T E p) (hl : (Lit.int .i64 v).wf = true) :
    Calls Try.prog 62 #[.pointer (some ⟨B, 0, none⟩), .int .i64 v] w fun e w' => e = .returned (.tuple #[.agg #[.int .i64 ((E.markV v).getD (0, 0)).1, .int .i64 ((E.markV v).getD (0, 0)).2], .bool (E.markV v).isSome]) ∧ Below w.heap.size w w' := by
  have hu := Try.underlying104
  have P6 : IntKind.i64.wrap (-v) = wrap64 (-v) := Go.IntWalk.i64_left _
  by_cases hv : v ≤ 0
  · have e1 : E.markV v = none := if_pos hv
    rw [e1]
    have d1 : decide (v ≤ 0) = true := decide_eq_true hv
    clear h e1 P6
    go_enter Try.func62, Try.ntmps62
    go_wp2
    try simp only [Exit.inBlock, Exit.then]
    refine bodyPost_ret (v := .tuple #[.agg #[.int .i64 0, .int .i64 0], .bool false]) (by simp [results, Try.results62, go_sem]) rfl ⟨rfl, ?_⟩
    repeat (first | exact Below.refl _ _ | apply below_alloc | refine below_set ?_ (Nat.le_refl _))
  · have d1 : decide (v ≤ 0) = false := decide_eq_false hv
    have HE := K0 h
    obtain ⟨m1, hm1⟩ : ∃ m, (E.ms v).getD (0, 0) = m := ⟨_, rfl⟩
    obtain ⟨m2, hm2⟩ : ∃ m, (E.ms (wrap64 (-v))).getD (0, 0) = m := ⟨_, rfl⟩
    have q1 : ∀ W, Below w.heap.size w W → (Instr.lookup 69 (.map (some p.bm)) (.int .i64 v) true).run Try.prog W = .ok (.tuple #[.agg #[.int .i64 m1.1, .int .i64 m1.2], .bool (E.ms v).isSome]) W := fun W hW => by
      have := h.look hW hl
      rw [hm1] at this
      exact this
    have q2 : ∀ W, Below w.heap.size w W → (Instr.lookup 69 (.map (some p.bm)) (.int .i64 (wrap64 (-v))) true).run Try.prog W = .ok (.tuple #[.agg #[.int .i64 m2.1, .int .i64 m2.2], .bool (E.ms (wrap64 (-v))).isSome]) W := fun W hW => by
      have := h.look hW (wf_wrap v)
      rw [hm2] at this
      exact this
    have c4 := h.cells.2.2.2.2.1
    have HQ1 := K0 q1
    have HQ2 := K0 q2
    clear q1 q2
    have hb1 : Below w.heap.size w (w.alloc (.cells #[.int .i64 0, .int .i64 0] 104)) := below_alloc (Below.refl _ _) _
    have c41 := pw_cell_below hb1 c4
    have r1 := HQ1.out _ hb1
    have hb2 : Below w.heap.size w ((w.alloc (.cells #[.int .i64 0, .int .i64 0] 104)).alloc (.cells #[.int .i64 m1.1, .int .i64 m1.2] 104)) := below_alloc hb1 _
    have c42 := pw_cell_below hb2 c4
    have r2 := HQ2.out _ hb2
    cases hs1 : (E.ms v).isSome with
    | true =>
      have e1 : E.markV v = E.ms v := by unfold Eng.markV; rw [if_neg hv, if_pos hs1]
      rw [e1, hm1, hs1]
      rw [hs1] at r1
      clear h e1 hm1 hm2 hs1
      go_enter Try.func62, Try.ntmps62
      go_wp2
      try simp only [Exit.inBlock, Exit.then]
      refine bodyPost_ret (v := .tuple #[.agg #[.int .i64 m1.1, .int .i64 m1.2], .bool true]) (by simp [results, Try.results62, go_sem]) rfl ⟨rfl, ?_⟩
      repeat (first | exact Below.refl _ _ | apply below_alloc | refine below_set ?_ (Nat.le_refl _))
    | false =>
      have e1 : E.markV v = E.ms (wrap64 (-v)) := by unfold Eng.markV; rw [if_neg hv, if_neg (by rw [hs1]; decide)]
      rw [e1, hm2]
      rw [hs1] at r1
      clear h e1 hm1 hm2 hs1
      go_enter Try.func62, Try.ntmps62
      go_wp2
      try simp only [Exit.inBlock, Exit.then]
      refine bodyPost_ret (v := .tuple #[.agg #[.int .i64 m2.1, .int .i64 m2.2], .bool (E.ms (wrap64 (-v))).isSome]) (by simp [results, Try.results62, go_sem]) rfl ⟨rfl, ?_⟩
      repeat (first | exact Below.refl _ _ | apply below_alloc | refine below_set ?_ (Nat.le_refl _))
def Eng.level (E : Eng) (v : Int) : Int := match E.markV v with | some q => q.1 | none => -1
set_option maxRecDepth 100000 in
theorem eng_Level.calls (E : Eng) (B : Nat) (T : Tag) (p : EngP) (v : Int) (w : World) (h : EngIn w B T E p) (hl : (Lit.int .i64 v).wf = true) :
    Calls Try.prog 28 #[.pointer (some ⟨B, 0, none⟩), .int .i64 v] w fun e w' => e = .returned (.int .i64 (E.level v)) ∧ Below w.heap.size w w' := by
  have HM := K0 (eng_mark.calls E B T p v w h hl)
  have hu := Try.underlying104
  clear h
  unfold Eng.level
  cases hq : E.markV v with
  | none =>
    rw [hq] at HM
    clear hq
    go_enter Try.func28, Try.ntmps28
    go_wp2_with fail
    refine HM.out.mono ?_
    rintro e' w1 ⟨rfl, hb⟩
    have HB := K0 hb
    clear hb
    go_wp2
    go_ret
    exact ⟨rfl, by repeat (first | exact HB.out | apply below_alloc | apply pw_below_drewN | apply below_drew1)⟩
  | some q =>
    rw [hq] at HM
    clear hq
    go_enter Try.func28, Try.ntmps28
    go_wp2_with fail
    refine HM.out.mono ?_
    rintro e' w1 ⟨rfl, hb⟩
    have HB := K0 hb
    clear hb
    go_wp2
    go_ret
    exact ⟨rfl, by repeat (first | exact HB.out | apply below_alloc | apply pw_below_drewN | apply below_drew1)⟩
def Eng.why (E : Eng) (v : Int) : Int := match E.markV v with | some q => q.2 | none => -1
set_option maxRecDepth 100000 in
theorem eng_Why.calls (E : Eng) (B : Nat) (T : Tag) (p : EngP) (v : Int) (w : World) (h : EngIn w B T E p) (hl : (Lit.int .i64 v).wf = true) :
    Calls Try.prog 43 #[.pointer (some ⟨B, 0, none⟩), .int .i64 v] w fun e w' => e = .returned (.int .i64 (E.why v)) ∧ Below w.heap.size w w' := by
  have HM := K0 (eng_mark.calls E B T p v w h hl)
  have hu := Try.underlying104
  clear h
  unfold Eng.why
  cases hq : E.markV v with
  | none =>
    rw [hq] at HM
    clear hq
    go_enter Try.func43, Try.ntmps43
    go_wp2_with fail
    refine HM.out.mono ?_
    rintro e' w1 ⟨rfl, hb⟩
    have HB := K0 hb
    clear hb
    go_wp2
    go_ret
    exact ⟨rfl, by repeat (first | exact HB.out | apply below_alloc | apply pw_below_drewN | apply below_drew1)⟩
  | some q =>
    rw [hq] at HM
    clear hq
    go_enter Try.func43, Try.ntmps43
    go_wp2_with fail
    refine HM.out.mono ?_
    rintro e' w1 ⟨rfl, hb⟩
    have HB := K0 hb
    clear hb
    go_wp2
    go_ret
    exact ⟨rfl, by repeat (first | exact HB.out | apply below_alloc | apply pw_below_drewN | apply below_drew1)⟩
structure Ask (wb : World) (fn : Nat) (args : Array Value) (v : Value) : Prop where
  go : ∀ W, Below wb.heap.size wb W → Calls Try.prog fn args W fun e W' => e = .returned v ∧ Below wb.heap.size wb W'
section
variable {wb : World} {B : Nat} {T : Tag} {E : Eng} {p : EngP}
end
def plV (pl : Int → Option Int) (x : Int) : Option Value := (pl x).map (Value.int .i64)
structure ResIn (wb w : World) (gX bP B : Nat) (N : Int) (A0 : Option Addr) (c0 : Nat) (L : List (List Int)) (pl : Int → Option Int) (Q : Nat → Prop) (vC vF : Value) (cl fr : List Int) : Prop where
  b : Below wb.heap.size wb w
  x : w.heap[gX]? = some (.cells #[.pointer (some ⟨B, 0, none⟩), .int .i64 N, .slice A0 L.length c0, .map (some bP), vC, vF] 91 (0, 0))
  m : MapI Try.prog 3 w bP (plV pl)
  c : Kd.R (Kd.int .i64) 3 w wb.heap.size (fun k => (k ≠ gX ∧ k ≠ bP ∧ Q k) ∧ some k ≠ vF.ownBlock) vC cl
  f : Kd.R (Kd.int .i64) 3 w wb.heap.size (fun k => (k ≠ gX ∧ k ≠ bP ∧ Q k) ∧ some k ≠ vC.ownBlock) vF fr
  hi : wb.heap.size ≤ gX ∧ wb.heap.size ≤ bP ∧ gX ≠ bP
  q : ∀ k, w.heap.size ≤ k → Q k
def ResKept (gX : Nat) (vF : Value) (w w' : World) : Prop := w.heap.size ≤ w'.heap.size ∧ ∀ k, k < w.heap.size → k ≠ gX → some k ≠ vF.ownBlock → w'.heap[k]? = w.heap[k]?
theorem ResKept.of_below {gX : Nat} {vF : Value} {w w' : World} (h : Below w.heap.size w w') : ResKept gX vF w w' := ⟨h.size, fun k hk _ _ => h.block k hk⟩
section
variable {wb w w1 : World} {gX bP B : Nat} {N : Int} {A0 : Option Addr} {c0 : Nat} {L : List (List Int)} {pl : Int → Option Int} {Q : Nat → Prop} {vC vF : Value} {cl fr : List Int}
theorem ResIn.below (h : ResIn wb w gX bP B N A0 c0 L pl Q vC vF cl fr) (hb : Below w.heap.size w w1) : ResIn wb w1 gX bP B N A0 c0 L pl Q vC vF cl fr :=
  ⟨below_step h.b hb, blk_below h.x hb, h.m.block (hb.block _ h.m.lt), Kd.R_below h.c hb, Kd.R_below h.f hb, h.hi, fun k hk => h.q k (Nat.le_trans hb.size hk)⟩
theorem ResIn.cells (h : ResIn wb w gX bP B N A0 c0 L pl Q vC vF cl fr) : w.cell? ⟨gX, 0, none⟩ = some (.pointer (some ⟨B, 0, none⟩)) ∧ w.cell? ⟨gX, 1, none⟩ = some (.int .i64 N) ∧ w.cell? ⟨gX, 2, none⟩ = some (.slice A0 L.length c0) ∧ w.cell? ⟨gX, 3, none⟩ = some (.map (some bP)) ∧ w.cell? ⟨gX, 4, none⟩ = some vC ∧ w.cell? ⟨gX, 5, none⟩ = some vF :=
  ⟨(blk_cell h.x 0).trans rfl, (blk_cell h.x 1).trans rfl, (blk_cell h.x 2).trans rfl, (blk_cell h.x 3).trans rfl, (blk_cell h.x 4).trans rfl, (blk_cell h.x 5).trans rfl⟩
theorem ResIn.look (h : ResIn wb w gX bP B N A0 c0 L pl Q vC vF cl fr) {x : Int} (hx : (Lit.int .i64 x).wf = true) : (Instr.lookup 89 (.map (some bP)) (.int .i64 x) false).run Try.prog w = .ok (.int .i64 ((pl x).getD 0)) w := by
  have := h.m.look Try.underlying3 Try.underlying89 (z := .int .i64 0) (by kernel_rfl) hx
  rw [this]
  unfold plV
  cases pl x <;> rfl
theorem ResIn.look_ok (h : ResIn wb w gX bP B N A0 c0 L pl Q vC vF cl fr) {x : Int} (hx : (Lit.int .i64 x).wf = true) : (Instr.lookup 89 (.map (some bP)) (.int .i64 x) true).run Try.prog w = .ok (.tuple #[.int .i64 ((pl x).getD 0), .bool (pl x).isSome]) w := by
  have := h.m.look_ok Try.underlying3 Try.underlying89 (z := .int .i64 0) (by kernel_rfl) hx
  rw [this]
  unfold plV
  cases pl x <;> rfl
end
def lit_is.f (a0 : Int) : Option (Bool) := if a0 = 0 then (some false) else (some (a0 != (-9223372036854775808)))
set_option maxHeartbeats 8000000 in
set_option maxRecDepth 100000 in
theorem lit_is.calls (a0 : Int) (r : Bool) (w : World) (h : lit_is.f a0 = some r) :
    Calls Try.prog 90 #[.int .i64 a0] w fun e w' => e = .returned (.bool r) ∧ Drawn0 w w' := by
  have H : (if a0 = 0 then (some false) else (some (a0 != (-9223372036854775808)))) = some r := h
  clear h
  by_cases c2 : a0 = 0
  · rw [if_pos c2] at H
    have c2b0 : (a0 == 0) = true := beq_iff_eq.mpr c2
    have c2b1 : (a0 != 0) = false := bne_eq_false_iff_eq.mpr c2
    clear c2
    as_aux_lemma =>
      obtain rfl := Option.some.inj H
      go_enter Try.func90, Try.ntmps90
      go_wp2
      go_ret
      exact ⟨by first | rfl | (simp; done) | (simp [*]; done), by repeat (first | exact Drawn0.refl _ | apply Drawn0.step)⟩
  · rw [if_neg c2] at H
    have c2b0 : (a0 == 0) = false := beq_eq_false_iff_ne.mpr c2
    have c2b1 : (a0 != 0) = true := bne_iff_ne.mpr c2
    as_aux_lemma =>
      obtain rfl := Option.some.inj H
      go_enter Try.func90, Try.ntmps90
      go_wp2
      go_ret
      exact ⟨by first | rfl | (simp; done) | (simp [*]; done), by repeat (first | exact Drawn0.refl _ | apply Drawn0.step)⟩
def lit_variable.f (a0 : Int) : Option (Int) := some (mx a0 (wrap64 (-a0)))
set_option maxHeartbeats 8000000 in
set_option maxRecDepth 100000 in
theorem lit_variable.calls (a0 : Int) (r : Int) (w : World) (h : lit_variable.f a0 = some r) :
    Calls Try.prog 91 #[.int .i64 a0] w fun e w' => e = .returned (.int .i64 r) ∧ Drawn0 w w' := by
  obtain rfl := Option.some.inj h
  clear h
  go_enter Try.func91, Try.ntmps91
  go_wp2
  · have h : a0 < wrap64 (-a0) := by assumption
    rw [show mx a0 (wrap64 (-a0)) = wrap64 (-a0) from if_pos h]
    go_ret
    exact ⟨rfl, Drawn0.refl _⟩
  · have h : wrap64 (-a0) ≤ a0 := by assumption
    rw [show mx a0 (wrap64 (-a0)) = a0 from if_neg (by omega)]
    go_ret
    exact ⟨rfl, Drawn0.refl _⟩
def lastP (pl : Int → Option Int) (p : Int → Bool) : List Int → Int × Bool → Int × Bool
  | [], s => s
  | x :: t, s => lastP pl p t (if p x = true then (if s.2 = true then (if (pl (wrap64 (-s.1))).getD 0 < (pl (wrap64 (-x))).getD 0 then (x, true) else s) else (x, true)) else s)
set_option maxRecDepth 100000 in
set_option maxHeartbeats 8000000 in
theorem learn_last.calls (gf : Nat) (lb : Array Value) (eg : ∀ args w, (callFunc gf args).run Try.prog w = .ok (.enter gf args) w) (p : Int → Bool) (wb : World) (gX bP B : Nat) (N : Int) (A0 : Option Addr) (c0 : Nat) (L : List (List Int)) (pl : Int → Option Int) (Q : Nat → Prop) (vC vF : Value) (cl fr : List Int) (w : World)
    (h : ResIn wb w gX bP B N A0 c0 L pl Q vC vF cl fr) (hp : ∀ W, Below w.heap.size w W → ∀ x ∈ cl, Calls Try.prog gf (#[.int .i64 x] ++ lb) W fun e W' => e = .returned (.bool (p x)) ∧ Below W.heap.size W W') :
    Calls Try.prog 83 #[.pointer (some ⟨gX, 0, none⟩), .func (.func gf) #[] lb] w fun e w' => e = .returned (.tuple #[.int .i64 (lastP pl p cl (0, false)).1, .bool (lastP pl p cl (0, false)).2]) ∧ Below w.heap.size w w' := by
  obtain ⟨AC, kC, eC⟩ := Kd.R_slice h.c
  subst eC
  have hCc := (Kd.V_reads' (Kd.R_V (base' := 0) h.c)).2.2
  have hbc := hCc.2.1
  have HC := K0 hCc; have HS := K0 h; have HP := K0 hp
  have huR := Try.underlying91
  obtain ⟨p0, p1, p2, p3, p4, p5⟩ := h.cells
  have HB := K0 (Below.refl w.heap.size w)
  clear h hp hCc
  go_enter Try.func83, Try.ntmps83
  go_wp2
  clear p0 p1 p2 p3 p4 p5
  go_loopg [6, 7, 9, 15] cl.length (fun gg v6 v7 v9 v15 wr => ∃ (j : Nat) (o : Int) (f : Bool), v15 = .int .i64 (j : Int) ∧ v6 = .int .i64 o ∧ v7 = .bool f ∧ Aside0 (j + gg = cl.length) ∧ Aside0 (Below w.heap.size w wr) ∧ Aside0 (lastP pl p (cl.drop j) (o, f) = lastP pl p cl (0, false)))
  case atStart => exact ⟨0, 0, false, rfl, rfl, rfl, ⟨by simp⟩, HB, ⟨rfl⟩⟩
  case round =>
    clear HB
    obtain ⟨j, o, f, rfl, rfl, rfl, hg, HB, HL⟩ := hrel
    by_cases hlt : j < cl.length
    case neg =>
      have d4 : decide ((j : Int) < (cl.length : Int)) = false := decide_eq_false (by omega)
      have P2 : (j < cl.length) = False := eq_false hlt
      have hl := HL.out
      rw [List.drop_of_length_le (by omega), lastP] at hl
      have HLL := K0 hl; clear hl HL
      go_wp2
      go_ret2
      exact ⟨by rw [← HLL.out]; rfl, HB.out⟩
    obtain ⟨ad, e1, x1⟩ := Kd.at_int (Kd.C_below HC.out HB.out) (j : Int) (by omega) (by omega)
    cases e1
    obtain ⟨x, hx⟩ : ∃ x, cl[j] = x := ⟨_, rfl⟩
    have hrd : rd cl (j : Int) = x := by simp [rd, hlt, hx]
    rw [hrd] at x1
    simp only [Int.toNat_natCast] at x1
    have hl := HL.out
    rw [List.drop_eq_getElem_cons hlt, hx, lastP] at hl
    have HL2 := K0 hl
    have HMEM := K0 (show x ∈ cl by rw [← hx]; exact List.getElem_mem hlt)
    have P0 : ((0 : Int) ≤ (j : Int)) = True := eq_true (by omega)
    have P1 : ((j : Int) < (cl.length : Int)) = True := eq_true (by omega)
    have P2 : (j < cl.length) = True := eq_true hlt
    have d4 : decide ((j : Int) < (cl.length : Int)) = true := decide_eq_true (by omega)
    clear hx hrd hl HL
    go_upto_region 5 with fail
    clear x1
    have HR := K0 (HS.out.below HB.out)
    obtain ⟨a, ha⟩ : ∃ a, (pl (wrap64 (-x))).getD 0 = a := ⟨_, rfl⟩
    obtain ⟨b, hb⟩ : ∃ b, (pl (wrap64 (-o))).getD 0 = b := ⟨_, rfl⟩
    have HLX := K0 (fun (W : World) (hW : Below w.heap.size w W) => by
      have := (HS.out.below hW).look (wf_wrap x)
      rw [ha] at this
      exact this)
    have HLO := K0 (fun (W : World) (hW : Below w.heap.size w W) => by
      have := (HS.out.below hW).look (wf_wrap o)
      rw [hb] at this
      exact this)
    have HLC := K0 (fun (W : World) (hW : Below w.heap.size w W) => (HS.out.below hW).cells.2.2.2.1)
    have hl := HL2.out
    dsimp only at hl
    rw [ha, hb] at hl
    clear ha hb HL2
    obtain hpx | hpx : p x = true ∨ p x = false := by cases p x <;> simp
    · rw [if_pos hpx] at hl
      cases f with
      | true =>
        rw [if_pos rfl] at hl
        obtain ⟨c, hc⟩ : ∃ c, decide (b < a) = c := ⟨_, rfl⟩
        have HLL := K0 hl; clear hl
        refine start_ (n := 24) (S := fun w' => w'.cell? ⟨gX, 3, none⟩ = some (.map (some bP)) ∧ (Instr.lookup 89 (.map (some bP)) (.int .i64 (wrap64 (-x))) false).run Try.prog w' = .ok (.int .i64 a) w' ∧ (Instr.lookup 89 (.map (some bP)) (.int .i64 (wrap64 (-o))) false).run Try.prog w' = .ok (.int .i64 b) w') (ds := []) #[false, false, false, false, false, false, false, false, false, false, false, false, false, false, false, false, false, false, false, false, false, false, false, false] (by kernel_rfl) rfl rfl ⟨HLC.out _ (below_drew HB.out), HLX.out _ (below_drew HB.out), HLO.out _ (below_drew HB.out)⟩ (fun hHeld => ?_)
        refine pure_ (i := 0) (N := some 19) (v := ?_) (a' := ?_) #[true, false, false, false, false, false, false, false, false, false, false, false, false, false, false, false, false, false, false, false, false, false, false, false] rfl rfl (by kernel_rfl) (fun _ _ _ h => h) (Or.inl ⟨by rfl, ?_⟩) ?_ ?_
        rotate_left
        · intro w'
          go_simp
          with_reducible rfl
        rotate_left
        · simp only [Act.put, List.setIfInBounds_toArray, List.set_cons_zero, List.set_cons_succ, i64_w, i32_w]
          rfl
        refine pure_ (i := 1) (N := some 20) (v := ?_) (a' := ?_) #[true, true, false, false, false, false, false, false, false, false, false, false, false, false, false, false, false, false, false, false, false, false, false, false] rfl rfl (by kernel_rfl) (fun _ _ _ h => h) (Or.inl ⟨by rfl, ?_⟩) ?_ ?_
        rotate_left
        · intro w'
          go_simp
          with_reducible rfl
        rotate_left
        · simp only [Act.put, List.setIfInBounds_toArray, List.set_cons_zero, List.set_cons_succ, i64_w, i32_w]
          rfl
        refine one_ (i := 2) (N := some 21) #[true, true, true, false, false, false, false, false, false, false, false, false, false, false, false, false, false, false, false, false, false, false, false, false] rfl rfl (by kernel_rfl) (by decide) (fun K hK => ?_)
        refine call_ gf (#[.int .i64 x] ++ lb) (by rfl) rfl (by unfold execOp; simp [resolve, Deferred.ofValue, invoke, Act.eval, Act.put, eg]) ?_
        with_reducible refine (HP.out _ (below_drew HB.out) x HMEM.out).mono ?_
        rintro e' w5 ⟨rfl, hb5⟩
        refine ⟨_, rfl, ?_⟩
        have HB5 := K0 (below_step (show Below w.heap.size w wr.drew from below_drew HB.out) hb5)
        rw [hpx]
        clear hb5
        refine hK.out _ _ ⟨HLC.out _ HB5.out, HLX.out _ HB5.out, HLO.out _ HB5.out⟩ (fun hHeld => ?_)
        clear hK K
        refine norm_ (a' := ?_) ?_ ?_
        rotate_left
        · show Act.put _ (some 21) _ = _
          simp only [Act.put, List.setIfInBounds_toArray, List.set_cons_zero, List.set_cons_succ, i64_w, i32_w]
          rfl
        refine pure_ (i := 3) (N := some 22) (v := ?_) (a' := ?_) #[true, true, true, true, false, false, false, false, false, false, false, false, false, false, false, false, false, false, false, false, false, false, false, false] rfl rfl (by kernel_rfl) (fun _ _ _ h => h) (Or.inl ⟨by rfl, ?_⟩) ?_ ?_
        rotate_left
        · intro w'
          go_simp
          with_reducible rfl
        rotate_left
        · simp only [Act.put, List.setIfInBounds_toArray, List.set_cons_zero, List.set_cons_succ, i64_w, i32_w]
          rfl
        refine pure_ (i := 4) (N := some 23) (v := ?_) (a' := ?_) #[true, true, true, true, true, false, false, false, false, false, false, false, false, false, false, false, false, false, false, false, false, false, false, false] rfl rfl (by kernel_rfl) (fun _ _ _ h => h) (Or.inl ⟨by rfl, ?_⟩) ?_ ?_
        rotate_left
        · intro w'
          go_simp
          with_reducible rfl
        rotate_left
        · simp only [Act.put, List.setIfInBounds_toArray, List.set_cons_zero, List.set_cons_succ, i64_w, i32_w]
          rfl
        refine pure_ (i := 5) (N := some 24) (v := ?_) (a' := ?_) #[true, true, true, true, true, true, false, false, false, false, false, false, false, false, false, false, false, false, false, false, false, false, false, false] rfl rfl (by kernel_rfl) (fun _ _ _ h => h) (Or.inl ⟨by rfl, ?_⟩) ?_ ?_
        rotate_left
        · intro w'
          go_simp
          with_reducible rfl
        rotate_left
        · simp only [Act.put, List.setIfInBounds_toArray, List.set_cons_zero, List.set_cons_succ, i64_w, i32_w]
          rfl
        refine pure_ (i := 6) (N := some 25) (v := ?_) (a' := ?_) #[true, true, true, true, true, true, true, false, false, false, false, false, false, false, false, false, false, false, false, false, false, false, false, false] rfl rfl (by kernel_rfl) (fun _ _ _ h => h) (Or.inl ⟨by rfl, ?_⟩) ?_ ?_
        rotate_left
        · intro w'
          go_simp
          with_reducible rfl
        rotate_left
        · simp only [Act.put, List.setIfInBounds_toArray, List.set_cons_zero, List.set_cons_succ, i64_w, i32_w]
          rfl
        refine pure_ (i := 7) (N := some 26) (v := ?_) (a' := ?_) #[true, true, true, true, true, true, true, true, false, false, false, false, false, false, false, false, false, false, false, false, false, false, false, false] rfl rfl (by kernel_rfl) (fun _ _ _ h => h) (Or.inl ⟨by rfl, ?_⟩) ?_ ?_
        rotate_left
        · intro w'
          go_simp
          with_reducible rfl
        rotate_left
        · simp only [Act.put, List.setIfInBounds_toArray, List.set_cons_zero, List.set_cons_succ, i64_w, i32_w]
          rfl
        refine pure_ (i := 8) (N := some 27) (v := ?_) (a' := ?_) #[true, true, true, true, true, true, true, true, true, false, false, false, false, false, false, false, false, false, false, false, false, false, false, false] rfl rfl (by kernel_rfl) (fun _ _ _ h => h) (Or.inl ⟨by rfl, ?_⟩) ?_ ?_
        rotate_left
        · intro w'
          go_simp
          with_reducible rfl
        rotate_left
        · simp only [Act.put, List.setIfInBounds_toArray, List.set_cons_zero, List.set_cons_succ, i64_w, i32_w]
          rfl
        refine pure_ (i := 9) (N := some 28) (v := ?_) (a' := ?_) #[true, true, true, true, true, true, true, true, true, true, false, false, false, false, false, false, false, false, false, false, false, false, false, false] rfl rfl (by kernel_rfl) (fun _ _ _ h => h) (Or.inl ⟨by rfl, ?_⟩) ?_ ?_
        rotate_left
        · intro w'
          go_simp
          with_reducible rfl
        rotate_left
        · simp only [Act.put, List.setIfInBounds_toArray, List.set_cons_zero, List.set_cons_succ, i64_w, i32_w]
          rfl
        refine pure_ (i := 11) (N := some 30) (v := ?_) (a' := ?_) #[true, true, true, true, true, true, true, true, true, true, false, true, false, false, false, false, false, false, false, false, false, false, false, false] rfl rfl (by kernel_rfl) (fun _ _ _ h => h) (Or.inl ⟨by rfl, ?_⟩) ?_ ?_
        rotate_left
        · intro w'
          go_simp
          with_reducible rfl
        rotate_left
        · simp only [Act.put, List.setIfInBounds_toArray, List.set_cons_zero, List.set_cons_succ, i64_w, i32_w]
          rfl
        refine pure_ (i := 12) (N := some 31) (v := ?_) (a' := ?_) #[true, true, true, true, true, true, true, true, true, true, false, true, true, false, false, false, false, false, false, false, false, false, false, false] rfl rfl (by kernel_rfl) (fun _ _ _ h => h) (Or.inl ⟨by rfl, ?_⟩) ?_ ?_
        rotate_left
        · intro w'
          go_simp
          with_reducible rfl
        rotate_left
        · simp only [Act.put, List.setIfInBounds_toArray, List.set_cons_zero, List.set_cons_succ, i64_w, i32_w]
          rfl
        refine pure_ (i := 14) (N := some 33) (v := ?_) (a' := ?_) #[true, true, true, true, true, true, true, true, true, true, false, true, true, false, true, false, false, false, false, false, false, false, false, false] rfl rfl (by kernel_rfl) (fun _ _ _ h => h) (Or.inl ⟨by rfl, ?_⟩) ?_ ?_
        rotate_left
        · intro w'
          go_simp
          with_reducible rfl
        rotate_left
        · simp only [Act.put, List.setIfInBounds_toArray, List.set_cons_zero, List.set_cons_succ, i64_w, i32_w]
          rfl
        refine pure_ (i := 15) (N := some 34) (v := ?_) (a' := ?_) #[true, true, true, true, true, true, true, true, true, true, false, true, true, false, true, true, false, false, false, false, false, false, false, false] rfl rfl (by kernel_rfl) (fun _ _ _ h => h) (Or.inl ⟨by rfl, ?_⟩) ?_ ?_
        rotate_left
        · intro w'
          go_simp
          with_reducible rfl
        rotate_left
        · simp only [Act.put, List.setIfInBounds_toArray, List.set_cons_zero, List.set_cons_succ, i64_w, i32_w]
          rfl
        refine pure_ (i := 16) (N := some 35) (v := ?_) (a' := ?_) #[true, true, true, true, true, true, true, true, true, true, false, true, true, false, true, true, true, false, false, false, false, false, false, false] rfl rfl (by kernel_rfl) (fun _ _ _ h => h) (Or.inl ⟨by rfl, ?_⟩) ?_ ?_
        rotate_left
        · intro w'
          go_simp
          with_reducible rfl
        rotate_left
        · simp only [Act.put, List.setIfInBounds_toArray, List.set_cons_zero, List.set_cons_succ, i64_w, i32_w]
          rfl
        refine pure_ (i := 18) (N := some 37) (v := ?_) (a' := ?_) #[true, true, true, true, true, true, true, true, true, true, false, true, true, false, true, true, true, false, true, false, false, false, false, false] rfl rfl (by kernel_rfl) (fun _ _ _ h => h) (Or.inl ⟨by rfl, ?_⟩) ?_ ?_
        rotate_left
        · intro w'
          go_simp
          with_reducible rfl
        rotate_left
        · simp only [Act.put, List.setIfInBounds_toArray, List.set_cons_zero, List.set_cons_succ, i64_w, i32_w]
          rfl
        refine pure_ (i := 19) (N := some 38) (v := ?_) (a' := ?_) #[true, true, true, true, true, true, true, true, true, true, false, true, true, false, true, true, true, false, true, true, false, false, false, false] rfl rfl (by kernel_rfl) (fun _ _ _ h => h) (Or.inl ⟨by rfl, ?_⟩) ?_ ?_
        rotate_left
        · intro w'
          go_simp
          with_reducible rfl
        rotate_left
        · simp only [Act.put, List.setIfInBounds_toArray, List.set_cons_zero, List.set_cons_succ, i64_w, i32_w]
          rfl
        refine take_ (i := 10) (N := some 29) (v := ?_) (a' := ?_) #[true, true, true, true, true, true, true, true, true, true, true, true, true, false, true, true, true, false, true, true, false, false, false, false] rfl rfl (by kernel_rfl) (fun _ _ _ h => h) (Or.inl ⟨by rfl, ?_⟩) hHeld ?_ ?_
        rotate_left
        · rintro w' ⟨s0, s1, s2⟩
          go_simp
          with_reducible rfl
        rotate_left
        · simp only [Act.put, List.setIfInBounds_toArray, List.set_cons_zero, List.set_cons_succ, i64_w, i32_w]
          rfl
        refine take_ (i := 13) (N := some 32) (v := ?_) (a' := ?_) #[true, true, true, true, true, true, true, true, true, true, true, true, true, true, true, true, true, false, true, true, false, false, false, false] rfl rfl (by kernel_rfl) (fun _ _ _ h => h) (Or.inl ⟨by rfl, ?_⟩) hHeld ?_ ?_
        rotate_left
        · rintro w' ⟨s0, s1, s2⟩
          go_simp
          with_reducible rfl
        rotate_left
        · simp only [Act.put, List.setIfInBounds_toArray, List.set_cons_zero, List.set_cons_succ, i64_w, i32_w]
          rfl
        refine take_ (i := 17) (N := some 36) (v := ?_) (a' := ?_) #[true, true, true, true, true, true, true, true, true, true, true, true, true, true, true, true, true, true, true, true, false, false, false, false] rfl rfl (by kernel_rfl) (fun _ _ _ h => h) (Or.inl ⟨by rfl, ?_⟩) hHeld ?_ ?_
        rotate_left
        · rintro w' ⟨s0, s1, s2⟩
          go_simp
          with_reducible rfl
        rotate_left
        · simp only [Act.put, List.setIfInBounds_toArray, List.set_cons_zero, List.set_cons_succ, i64_w, i32_w]
          rfl
        refine take_ (i := 20) (N := some 39) (v := ?_) (a' := ?_) #[true, true, true, true, true, true, true, true, true, true, true, true, true, true, true, true, true, true, true, true, true, false, false, false] rfl rfl (by kernel_rfl) (fun _ _ _ h => h) (Or.inl ⟨by rfl, ?_⟩) hHeld ?_ ?_
        rotate_left
        · rintro w' ⟨s0, s1, s2⟩
          go_simp
          with_reducible rfl
        rotate_left
        · simp only [Act.put, List.setIfInBounds_toArray, List.set_cons_zero, List.set_cons_succ, i64_w, i32_w]
          rfl
        refine pure_ (i := 21) (N := some 40) (v := ?_) (a' := ?_) #[true, true, true, true, true, true, true, true, true, true, true, true, true, true, true, true, true, true, true, true, true, true, false, false] rfl rfl (by kernel_rfl) (fun _ _ _ h => h) (Or.inl ⟨by rfl, ?_⟩) ?_ ?_
        rotate_left
        · intro w'
          go_simp
          with_reducible rfl
        rotate_left
        · simp only [Act.put, List.setIfInBounds_toArray, List.set_cons_zero, List.set_cons_succ, i64_w, i32_w]
          rfl
        refine pure_ (i := 22) (N := some 41) (v := ?_) (a' := ?_) #[true, true, true, true, true, true, true, true, true, true, true, true, true, true, true, true, true, true, true, true, true, true, true, false] rfl rfl (by kernel_rfl) (fun _ _ _ h => h) (Or.inl ⟨by rfl, ?_⟩) ?_ ?_
        rotate_left
        · intro w'
          go_simp
          with_reducible rfl
        rotate_left
        · simp only [Act.put, List.setIfInBounds_toArray, List.set_cons_zero, List.set_cons_succ, i64_w, i32_w]
          rfl
        refine pure_ (i := 23) (N := some 42) (v := ?_) (a' := ?_) #[true, true, true, true, true, true, true, true, true, true, true, true, true, true, true, true, true, true, true, true, true, true, true, true] rfl rfl (by kernel_rfl) (fun _ _ _ h => h) (Or.inl ⟨by rfl, ?_⟩) ?_ ?_
        rotate_left
        · intro w'
          go_simp
          with_reducible rfl
        rotate_left
        · simp only [Act.put, List.setIfInBounds_toArray, List.set_cons_zero, List.set_cons_succ, i64_w, i32_w]
          rfl
        refine done_ (by kernel_rfl) ?_
        cases c with
        | true =>
          have hl := HLL.out
          rw [if_pos (of_decide_eq_true hc)] at hl
          clear hc
          go_wp2
          go_roundg (cl.length - (j + 1))
          case measure => have := hg.out; omega
          case rel => exact ⟨j + 1, x, true, by simp, rfl, rfl, ⟨by have := hg.out; omega⟩, HB5, ⟨hl⟩⟩
        | false =>
          have hl := HLL.out
          rw [if_neg (of_decide_eq_false hc)] at hl
          clear hc
          go_wp2
          go_roundg (cl.length - (j + 1))
          case measure => have := hg.out; omega
          case rel => exact ⟨j + 1, o, true, by simp, rfl, rfl, ⟨by have := hg.out; omega⟩, HB5, ⟨hl⟩⟩
      | false =>
        rw [if_neg Bool.false_ne_true] at hl
        have HLL := K0 hl; clear hl
        refine start_ (n := 24) (S := fun w' => w'.cell? ⟨gX, 3, none⟩ = some (.map (some bP)) ∧ (Instr.lookup 89 (.map (some bP)) (.int .i64 (wrap64 (-x))) false).run Try.prog w' = .ok (.int .i64 a) w' ∧ (Instr.lookup 89 (.map (some bP)) (.int .i64 (wrap64 (-o))) false).run Try.prog w' = .ok (.int .i64 b) w') (ds := []) #[false, false, false, false, false, false, false, false, false, false, false, false, false, false, false, false, false, false, false, false, false, false, false, false] (by kernel_rfl) rfl rfl ⟨HLC.out _ (below_drew HB.out), HLX.out _ (below_drew HB.out), HLO.out _ (below_drew HB.out)⟩ (fun hHeld => ?_)
        refine pure_ (i := 0) (N := some 19) (v := ?_) (a' := ?_) #[true, false, false, false, false, false, false, false, false, false, false, false, false, false, false, false, false, false, false, false, false, false, false, false] rfl rfl (by kernel_rfl) (fun _ _ _ h => h) (Or.inl ⟨by rfl, ?_⟩) ?_ ?_
        rotate_left
        · intro w'
          go_simp
          with_reducible rfl
        rotate_left
        · simp only [Act.put, List.setIfInBounds_toArray, List.set_cons_zero, List.set_cons_succ, i64_w, i32_w]
          rfl
        refine pure_ (i := 1) (N := some 20) (v := ?_) (a' := ?_) #[true, true, false, false, false, false, false, false, false, false, false, false, false, false, false, false, false, false, false, false, false, false, false, false] rfl rfl (by kernel_rfl) (fun _ _ _ h => h) (Or.inl ⟨by rfl, ?_⟩) ?_ ?_
        rotate_left
        · intro w'
          go_simp
          with_reducible rfl
        rotate_left
        · simp only [Act.put, List.setIfInBounds_toArray, List.set_cons_zero, List.set_cons_succ, i64_w, i32_w]
          rfl
        refine one_ (i := 2) (N := some 21) #[true, true, true, false, false, false, false, false, false, false, false, false, false, false, false, false, false, false, false, false, false, false, false, false] rfl rfl (by kernel_rfl) (by decide) (fun K hK => ?_)
        refine call_ gf (#[.int .i64 x] ++ lb) (by rfl) rfl (by unfold execOp; simp [resolve, Deferred.ofValue, invoke, Act.eval, Act.put, eg]) ?_
        with_reducible refine (HP.out _ (below_drew HB.out) x HMEM.out).mono ?_
        rintro e' w5 ⟨rfl, hb5⟩
        refine ⟨_, rfl, ?_⟩
        have HB5 := K0 (below_step (show Below w.heap.size w wr.drew from below_drew HB.out) hb5)
        rw [hpx]
        clear hb5
        refine hK.out _ _ ⟨HLC.out _ HB5.out, HLX.out _ HB5.out, HLO.out _ HB5.out⟩ (fun hHeld => ?_)
        clear hK K
        refine norm_ (a' := ?_) ?_ ?_
        rotate_left
        · show Act.put _ (some 21) _ = _
          simp only [Act.put, List.setIfInBounds_toArray, List.set_cons_zero, List.set_cons_succ, i64_w, i32_w]
          rfl
        refine pure_ (i := 3) (N := some 22) (v := ?_) (a' := ?_) #[true, true, true, true, false, false, false, false, false, false, false, false, false, false, false, false, false, false, false, false, false, false, false, false] rfl rfl (by kernel_rfl) (fun _ _ _ h => h) (Or.inl ⟨by rfl, ?_⟩) ?_ ?_
        rotate_left
        · intro w'
          go_simp
          with_reducible rfl
        rotate_left
        · simp only [Act.put, List.setIfInBounds_toArray, List.set_cons_zero, List.set_cons_succ, i64_w, i32_w]
          rfl
        refine pure_ (i := 4) (N := some 23) (v := ?_) (a' := ?_) #[true, true, true, true, true, false, false, false, false, false, false, false, false, false, false, false, false, false, false, false, false, false, false, false] rfl rfl (by kernel_rfl) (fun _ _ _ h => h) (Or.inl ⟨by rfl, ?_⟩) ?_ ?_
        rotate_left
        · intro w'
          go_simp
          with_reducible rfl
        rotate_left
        · simp only [Act.put, List.setIfInBounds_toArray, List.set_cons_zero, List.set_cons_succ, i64_w, i32_w]
          rfl
        refine pure_ (i := 5) (N := some 24) (v := ?_) (a' := ?_) #[true, true, true, true, true, true, false, false, false, false, false, false, false, false, false, false, false, false, false, false, false, false, false, false] rfl rfl (by kernel_rfl) (fun _ _ _ h => h) (Or.inl ⟨by rfl, ?_⟩) ?_ ?_
        rotate_left
        · intro w'
          go_simp
          with_reducible rfl
        rotate_left
        · simp only [Act.put, List.setIfInBounds_toArray, List.set_cons_zero, List.set_cons_succ, i64_w, i32_w]
          rfl
        refine pure_ (i := 6) (N := some 25) (v := ?_) (a' := ?_) #[true, true, true, true, true, true, true, false, false, false, false, false, false, false, false, false, false, false, false, false, false, false, false, false] rfl rfl (by kernel_rfl) (fun _ _ _ h => h) (Or.inl ⟨by rfl, ?_⟩) ?_ ?_
        rotate_left
        · intro w'
          go_simp
          with_reducible rfl
        rotate_left
        · simp only [Act.put, List.setIfInBounds_toArray, List.set_cons_zero, List.set_cons_succ, i64_w, i32_w]
          rfl
        refine pure_ (i := 7) (N := some 26) (v := undef) (a' := ?_) #[true, true, true, true, true, true, true, true, false, false, false, false, false, false, false, false, false, false, false, false, false, false, false, false] rfl rfl (by kernel_rfl) (fun _ _ _ h => h) (Or.inr ⟨by rfl, rfl⟩) ?_ ?_
        rotate_left
        · simp only [Act.put, List.setIfInBounds_toArray, List.set_cons_zero, List.set_cons_succ, i64_w, i32_w]
          rfl
        refine pure_ (i := 8) (N := some 27) (v := undef) (a' := ?_) #[true, true, true, true, true, true, true, true, true, false, false, false, false, false, false, false, false, false, false, false, false, false, false, false] rfl rfl (by kernel_rfl) (fun _ _ _ h => h) (Or.inr ⟨by rfl, rfl⟩) ?_ ?_
        rotate_left
        · simp only [Act.put, List.setIfInBounds_toArray, List.set_cons_zero, List.set_cons_succ, i64_w, i32_w]
          rfl
        refine pure_ (i := 9) (N := some 28) (v := undef) (a' := ?_) #[true, true, true, true, true, true, true, true, true, true, false, false, false, false, false, false, false, false, false, false, false, false, false, false] rfl rfl (by kernel_rfl) (fun _ _ _ h => h) (Or.inr ⟨by rfl, rfl⟩) ?_ ?_
        rotate_left
        · simp only [Act.put, List.setIfInBounds_toArray, List.set_cons_zero, List.set_cons_succ, i64_w, i32_w]
          rfl
        refine pure_ (i := 10) (N := some 29) (v := undef) (a' := ?_) #[true, true, true, true, true, true, true, true, true, true, true, false, false, false, false, false, false, false, false, false, false, false, false, false] rfl rfl (by kernel_rfl) (fun _ _ _ h => h) (Or.inr ⟨by rfl, rfl⟩) ?_ ?_
        rotate_left
        · simp only [Act.put, List.setIfInBounds_toArray, List.set_cons_zero, List.set_cons_succ, i64_w, i32_w]
          rfl
        refine pure_ (i := 11) (N := some 30) (v := undef) (a' := ?_) #[true, true, true, true, true, true, true, true, true, true, true, true, false, false, false, false, false, false, false, false, false, false, false, false] rfl rfl (by kernel_rfl) (fun _ _ _ h => h) (Or.inr ⟨by rfl, rfl⟩) ?_ ?_
        rotate_left
        · simp only [Act.put, List.setIfInBounds_toArray, List.set_cons_zero, List.set_cons_succ, i64_w, i32_w]
          rfl
        refine pure_ (i := 12) (N := some 31) (v := undef) (a' := ?_) #[true, true, true, true, true, true, true, true, true, true, true, true, true, false, false, false, false, false, false, false, false, false, false, false] rfl rfl (by kernel_rfl) (fun _ _ _ h => h) (Or.inr ⟨by rfl, rfl⟩) ?_ ?_
        rotate_left
        · simp only [Act.put, List.setIfInBounds_toArray, List.set_cons_zero, List.set_cons_succ, i64_w, i32_w]
          rfl
        refine pure_ (i := 13) (N := some 32) (v := undef) (a' := ?_) #[true, true, true, true, true, true, true, true, true, true, true, true, true, true, false, false, false, false, false, false, false, false, false, false] rfl rfl (by kernel_rfl) (fun _ _ _ h => h) (Or.inr ⟨by rfl, rfl⟩) ?_ ?_
        rotate_left
        · simp only [Act.put, List.setIfInBounds_toArray, List.set_cons_zero, List.set_cons_succ, i64_w, i32_w]
          rfl
        refine pure_ (i := 14) (N := some 33) (v := undef) (a' := ?_) #[true, true, true, true, true, true, true, true, true, true, true, true, true, true, true, false, false, false, false, false, false, false, false, false] rfl rfl (by kernel_rfl) (fun _ _ _ h => h) (Or.inr ⟨by rfl, rfl⟩) ?_ ?_
        rotate_left
        · simp only [Act.put, List.setIfInBounds_toArray, List.set_cons_zero, List.set_cons_succ, i64_w, i32_w]
          rfl
        refine pure_ (i := 15) (N := some 34) (v := undef) (a' := ?_) #[true, true, true, true, true, true, true, true, true, true, true, true, true, true, true, true, false, false, false, false, false, false, false, false] rfl rfl (by kernel_rfl) (fun _ _ _ h => h) (Or.inr ⟨by rfl, rfl⟩) ?_ ?_
        rotate_left
        · simp only [Act.put, List.setIfInBounds_toArray, List.set_cons_zero, List.set_cons_succ, i64_w, i32_w]
          rfl
        refine pure_ (i := 16) (N := some 35) (v := undef) (a' := ?_) #[true, true, true, true, true, true, true, true, true, true, true, true, true, true, true, true, true, false, false, false, false, false, false, false] rfl rfl (by kernel_rfl) (fun _ _ _ h => h) (Or.inr ⟨by rfl, rfl⟩) ?_ ?_
        rotate_left
        · simp only [Act.put, List.setIfInBounds_toArray, List.set_cons_zero, List.set_cons_succ, i64_w, i32_w]
          rfl
        refine pure_ (i := 17) (N := some 36) (v := undef) (a' := ?_) #[true, true, true, true, true, true, true, true, true, true, true, true, true, true, true, true, true, true, false, false, false, false, false, false] rfl rfl (by kernel_rfl) (fun _ _ _ h => h) (Or.inr ⟨by rfl, rfl⟩) ?_ ?_
        rotate_left
        · simp only [Act.put, List.setIfInBounds_toArray, List.set_cons_zero, List.set_cons_succ, i64_w, i32_w]
          rfl
        refine pure_ (i := 18) (N := some 37) (v := undef) (a' := ?_) #[true, true, true, true, true, true, true, true, true, true, true, true, true, true, true, true, true, true, true, false, false, false, false, false] rfl rfl (by kernel_rfl) (fun _ _ _ h => h) (Or.inr ⟨by rfl, rfl⟩) ?_ ?_
        rotate_left
        · simp only [Act.put, List.setIfInBounds_toArray, List.set_cons_zero, List.set_cons_succ, i64_w, i32_w]
          rfl
        refine pure_ (i := 19) (N := some 38) (v := undef) (a' := ?_) #[true, true, true, true, true, true, true, true, true, true, true, true, true, true, true, true, true, true, true, true, false, false, false, false] rfl rfl (by kernel_rfl) (fun _ _ _ h => h) (Or.inr ⟨by rfl, rfl⟩) ?_ ?_
        rotate_left
        · simp only [Act.put, List.setIfInBounds_toArray, List.set_cons_zero, List.set_cons_succ, i64_w, i32_w]
          rfl
        refine pure_ (i := 20) (N := some 39) (v := undef) (a' := ?_) #[true, true, true, true, true, true, true, true, true, true, true, true, true, true, true, true, true, true, true, true, true, false, false, false] rfl rfl (by kernel_rfl) (fun _ _ _ h => h) (Or.inr ⟨by rfl, rfl⟩) ?_ ?_
        rotate_left
        · simp only [Act.put, List.setIfInBounds_toArray, List.set_cons_zero, List.set_cons_succ, i64_w, i32_w]
          rfl
        refine pure_ (i := 21) (N := some 40) (v := undef) (a' := ?_) #[true, true, true, true, true, true, true, true, true, true, true, true, true, true, true, true, true, true, true, true, true, true, false, false] rfl rfl (by kernel_rfl) (fun _ _ _ h => h) (Or.inr ⟨by rfl, rfl⟩) ?_ ?_
        rotate_left
        · simp only [Act.put, List.setIfInBounds_toArray, List.set_cons_zero, List.set_cons_succ, i64_w, i32_w]
          rfl
        refine pure_ (i := 22) (N := some 41) (v := ?_) (a' := ?_) #[true, true, true, true, true, true, true, true, true, true, true, true, true, true, true, true, true, true, true, true, true, true, true, false] rfl rfl (by kernel_rfl) (fun _ _ _ h => h) (Or.inl ⟨by rfl, ?_⟩) ?_ ?_
        rotate_left
        · intro w'
          go_simp
          with_reducible rfl
        rotate_left
        · simp only [Act.put, List.setIfInBounds_toArray, List.set_cons_zero, List.set_cons_succ, i64_w, i32_w]
          rfl
        refine pure_ (i := 23) (N := some 42) (v := ?_) (a' := ?_) #[true, true, true, true, true, true, true, true, true, true, true, true, true, true, true, true, true, true, true, true, true, true, true, true] rfl rfl (by kernel_rfl) (fun _ _ _ h => h) (Or.inl ⟨by rfl, ?_⟩) ?_ ?_
        rotate_left
        · intro w'
          go_simp
          with_reducible rfl
        rotate_left
        · simp only [Act.put, List.setIfInBounds_toArray, List.set_cons_zero, List.set_cons_succ, i64_w, i32_w]
          rfl
        refine done_ (by kernel_rfl) ?_
        go_wp2
        go_roundg (cl.length - (j + 1))
        case measure => have := hg.out; omega
        case rel => exact ⟨j + 1, x, true, by simp, rfl, rfl, ⟨by have := hg.out; omega⟩, HB5, HLL⟩
    rw [if_neg (by rw [hpx]; exact Bool.false_ne_true)] at hl
    have HLL := K0 hl; clear hl
    refine start_ (n := 24) (S := fun w' => w'.cell? ⟨gX, 3, none⟩ = some (.map (some bP)) ∧ (Instr.lookup 89 (.map (some bP)) (.int .i64 (wrap64 (-x))) false).run Try.prog w' = .ok (.int .i64 a) w' ∧ (Instr.lookup 89 (.map (some bP)) (.int .i64 (wrap64 (-o))) false).run Try.prog w' = .ok (.int .i64 b) w') (ds := []) #[false, false, false, false, false, false, false, false, false, false, false, false, false, false, false, false, false, false, false, false, false, false, false, false] (by kernel_rfl) rfl rfl ⟨HLC.out _ (below_drew HB.out), HLX.out _ (below_drew HB.out), HLO.out _ (below_drew HB.out)⟩ (fun hHeld => ?_)
    refine pure_ (i := 0) (N := some 19) (v := ?_) (a' := ?_) #[true, false, false, false, false, false, false, false, false, false, false, false, false, false, false, false, false, false, false, false, false, false, false, false] rfl rfl (by kernel_rfl) (fun _ _ _ h => h) (Or.inl ⟨by rfl, ?_⟩) ?_ ?_
    rotate_left
    · intro w'
      go_simp
      with_reducible rfl
    rotate_left
    · simp only [Act.put, List.setIfInBounds_toArray, List.set_cons_zero, List.set_cons_succ, i64_w, i32_w]
      rfl
    refine pure_ (i := 1) (N := some 20) (v := ?_) (a' := ?_) #[true, true, false, false, false, false, false, false, false, false, false, false, false, false, false, false, false, false, false, false, false, false, false, false] rfl rfl (by kernel_rfl) (fun _ _ _ h => h) (Or.inl ⟨by rfl, ?_⟩) ?_ ?_
    rotate_left
    · intro w'
      go_simp
      with_reducible rfl
    rotate_left
    · simp only [Act.put, List.setIfInBounds_toArray, List.set_cons_zero, List.set_cons_succ, i64_w, i32_w]
      rfl
    refine one_ (i := 2) (N := some 21) #[true, true, true, false, false, false, false, false, false, false, false, false, false, false, false, false, false, false, false, false, false, false, false, false] rfl rfl (by kernel_rfl) (by decide) (fun K hK => ?_)
    refine call_ gf (#[.int .i64 x] ++ lb) (by rfl) rfl (by unfold execOp; simp [resolve, Deferred.ofValue, invoke, Act.eval, Act.put, eg]) ?_
    with_reducible refine (HP.out _ (below_drew HB.out) x HMEM.out).mono ?_
    rintro e' w5 ⟨rfl, hb5⟩
    refine ⟨_, rfl, ?_⟩
    have HB5 := K0 (below_step (show Below w.heap.size w wr.drew from below_drew HB.out) hb5)
    rw [hpx]
    clear hb5
    refine hK.out _ _ ⟨HLC.out _ HB5.out, HLX.out _ HB5.out, HLO.out _ HB5.out⟩ (fun hHeld => ?_)
    clear hK K
    refine norm_ (a' := ?_) ?_ ?_
    rotate_left
    · show Act.put _ (some 21) _ = _
      simp only [Act.put, List.setIfInBounds_toArray, List.set_cons_zero, List.set_cons_succ, i64_w, i32_w]
      rfl
    refine pure_ (i := 3) (N := some 22) (v := ?_) (a' := ?_) #[true, true, true, true, false, false, false, false, false, false, false, false, false, false, false, false, false, false, false, false, false, false, false, false] rfl rfl (by kernel_rfl) (fun _ _ _ h => h) (Or.inl ⟨by rfl, ?_⟩) ?_ ?_
    rotate_left
    · intro w'
      go_simp
      with_reducible rfl
    rotate_left
    · simp only [Act.put, List.setIfInBounds_toArray, List.set_cons_zero, List.set_cons_succ, i64_w, i32_w]
      rfl
    refine pure_ (i := 4) (N := some 23) (v := undef) (a' := ?_) #[true, true, true, true, true, false, false, false, false, false, false, false, false, false, false, false, false, false, false, false, false, false, false, false] rfl rfl (by kernel_rfl) (fun _ _ _ h => h) (Or.inr ⟨by rfl, rfl⟩) ?_ ?_
    rotate_left
    · simp only [Act.put, List.setIfInBounds_toArray, List.set_cons_zero, List.set_cons_succ, i64_w, i32_w]
      rfl
    refine pure_ (i := 5) (N := some 24) (v := undef) (a' := ?_) #[true, true, true, true, true, true, false, false, false, false, false, false, false, false, false, false, false, false, false, false, false, false, false, false] rfl rfl (by kernel_rfl) (fun _ _ _ h => h) (Or.inr ⟨by rfl, rfl⟩) ?_ ?_
    rotate_left
    · simp only [Act.put, List.setIfInBounds_toArray, List.set_cons_zero, List.set_cons_succ, i64_w, i32_w]
      rfl
    refine pure_ (i := 6) (N := some 25) (v := undef) (a' := ?_) #[true, true, true, true, true, true, true, false, false, false, false, false, false, false, false, false, false, false, false, false, false, false, false, false] rfl rfl (by kernel_rfl) (fun _ _ _ h => h) (Or.inr ⟨by rfl, rfl⟩) ?_ ?_
    rotate_left
    · simp only [Act.put, List.setIfInBounds_toArray, List.set_cons_zero, List.set_cons_succ, i64_w, i32_w]
      rfl
    refine pure_ (i := 7) (N := some 26) (v := undef) (a' := ?_) #[true, true, true, true, true, true, true, true, false, false, false, false, false, false, false, false, false, false, false, false, false, false, false, false] rfl rfl (by kernel_rfl) (fun _ _ _ h => h) (Or.inr ⟨by rfl, rfl⟩) ?_ ?_
    rotate_left
    · simp only [Act.put, List.setIfInBounds_toArray, List.set_cons_zero, List.set_cons_succ, i64_w, i32_w]
      rfl
    refine pure_ (i := 8) (N := some 27) (v := undef) (a' := ?_) #[true, true, true, true, true, true, true, true, true, false, false, false, false, false, false, false, false, false, false, false, false, false, false, false] rfl rfl (by kernel_rfl) (fun _ _ _ h => h) (Or.inr ⟨by rfl, rfl⟩) ?_ ?_
    rotate_left
    · simp only [Act.put, List.setIfInBounds_toArray, List.set_cons_zero, List.set_cons_succ, i64_w, i32_w]
      rfl
    refine pure_ (i := 9) (N := some 28) (v := undef) (a' := ?_) #[true, true, true, true, true, true, true, true, true, true, false, false, false, false, false, false, false, false, false, false, false, false, false, false] rfl rfl (by kernel_rfl) (fun _ _ _ h => h) (Or.inr ⟨by rfl, rfl⟩) ?_ ?_
    rotate_left
    · simp only [Act.put, List.setIfInBounds_toArray, List.set_cons_zero, List.set_cons_succ, i64_w, i32_w]
      rfl
    refine pure_ (i := 10) (N := some 29) (v := undef) (a' := ?_) #[true, true, true, true, true, true, true, true, true, true, true, false, false, false, false, false, false, false, false, false, false, false, false, false] rfl rfl (by kernel_rfl) (fun _ _ _ h => h) (Or.inr ⟨by rfl, rfl⟩) ?_ ?_
    rotate_left
    · simp only [Act.put, List.setIfInBounds_toArray, List.set_cons_zero, List.set_cons_succ, i64_w, i32_w]
      rfl
    refine pure_ (i := 11) (N := some 30) (v := undef) (a' := ?_) #[true, true, true, true, true, true, true, true, true, true, true, true, false, false, false, false, false, false, false, false, false, false, false, false] rfl rfl (by kernel_rfl) (fun _ _ _ h => h) (Or.inr ⟨by rfl, rfl⟩) ?_ ?_
    rotate_left
    · simp only [Act.put, List.setIfInBounds_toArray, List.set_cons_zero, List.set_cons_succ, i64_w, i32_w]
      rfl
    refine pure_ (i := 12) (N := some 31) (v := undef) (a' := ?_) #[true, true, true, true, true, true, true, true, true, true, true, true, true, false, false, false, false, false, false, false, false, false, false, false] rfl rfl (by kernel_rfl) (fun _ _ _ h => h) (Or.inr ⟨by rfl, rfl⟩) ?_ ?_
    rotate_left
    · simp only [Act.put, List.setIfInBounds_toArray, List.set_cons_zero, List.set_cons_succ, i64_w, i32_w]
      rfl
    refine pure_ (i := 13) (N := some 32) (v := undef) (a' := ?_) #[true, true, true, true, true, true, true, true, true, true, true, true, true, true, false, false, false, false, false, false, false, false, false, false] rfl rfl (by kernel_rfl) (fun _ _ _ h => h) (Or.inr ⟨by rfl, rfl⟩) ?_ ?_
    rotate_left
    · simp only [Act.put, List.setIfInBounds_toArray, List.set_cons_zero, List.set_cons_succ, i64_w, i32_w]
      rfl
    refine pure_ (i := 14) (N := some 33) (v := undef) (a' := ?_) #[true, true, true, true, true, true, true, true, true, true, true, true, true, true, true, false, false, false, false, false, false, false, false, false] rfl rfl (by kernel_rfl) (fun _ _ _ h => h) (Or.inr ⟨by rfl, rfl⟩) ?_ ?_
    rotate_left
    · simp only [Act.put, List.setIfInBounds_toArray, List.set_cons_zero, List.set_cons_succ, i64_w, i32_w]
      rfl
    refine pure_ (i := 15) (N := some 34) (v := undef) (a' := ?_) #[true, true, true, true, true, true, true, true, true, true, true, true, true, true, true, true, false, false, false, false, false, false, false, false] rfl rfl (by kernel_rfl) (fun _ _ _ h => h) (Or.inr ⟨by rfl, rfl⟩) ?_ ?_
    rotate_left
    · simp only [Act.put, List.setIfInBounds_toArray, List.set_cons_zero, List.set_cons_succ, i64_w, i32_w]
      rfl
    refine pure_ (i := 16) (N := some 35) (v := undef) (a' := ?_) #[true, true, true, true, true, true, true, true, true, true, true, true, true, true, true, true, true, false, false, false, false, false, false, false] rfl rfl (by kernel_rfl) (fun _ _ _ h => h) (Or.inr ⟨by rfl, rfl⟩) ?_ ?_
    rotate_left
    · simp only [Act.put, List.setIfInBounds_toArray, List.set_cons_zero, List.set_cons_succ, i64_w, i32_w]
      rfl
    refine pure_ (i := 17) (N := some 36) (v := undef) (a' := ?_) #[true, true, true, true, true, true, true, true, true, true, true, true, true, true, true, true, true, true, false, false, false, false, false, false] rfl rfl (by kernel_rfl) (fun _ _ _ h => h) (Or.inr ⟨by rfl, rfl⟩) ?_ ?_
    rotate_left
    · simp only [Act.put, List.setIfInBounds_toArray, List.set_cons_zero, List.set_cons_succ, i64_w, i32_w]
      rfl
    refine pure_ (i := 18) (N := some 37) (v := undef) (a' := ?_) #[true, true, true, true, true, true, true, true, true, true, true, true, true, true, true, true, true, true, true, false, false, false, false, false] rfl rfl (by kernel_rfl) (fun _ _ _ h => h) (Or.inr ⟨by rfl, rfl⟩) ?_ ?_
    rotate_left
    · simp only [Act.put, List.setIfInBounds_toArray, List.set_cons_zero, List.set_cons_succ, i64_w, i32_w]
      rfl
    refine pure_ (i := 19) (N := some 38) (v := undef) (a' := ?_) #[true, true, true, true, true, true, true, true, true, true, true, true, true, true, true, true, true, true, true, true, false, false, false, false] rfl rfl (by kernel_rfl) (fun _ _ _ h => h) (Or.inr ⟨by rfl, rfl⟩) ?_ ?_
    rotate_left
    · simp only [Act.put, List.setIfInBounds_toArray, List.set_cons_zero, List.set_cons_succ, i64_w, i32_w]
      rfl
    refine pure_ (i := 20) (N := some 39) (v := undef) (a' := ?_) #[true, true, true, true, true, true, true, true, true, true, true, true, true, true, true, true, true, true, true, true, true, false, false, false] rfl rfl (by kernel_rfl) (fun _ _ _ h => h) (Or.inr ⟨by rfl, rfl⟩) ?_ ?_
    rotate_left
    · simp only [Act.put, List.setIfInBounds_toArray, List.set_cons_zero, List.set_cons_succ, i64_w, i32_w]
      rfl
    refine pure_ (i := 21) (N := some 40) (v := undef) (a' := ?_) #[true, true, true, true, true, true, true, true, true, true, true, true, true, true, true, true, true, true, true, true, true, true, false, false] rfl rfl (by kernel_rfl) (fun _ _ _ h => h) (Or.inr ⟨by rfl, rfl⟩) ?_ ?_
    rotate_left
    · simp only [Act.put, List.setIfInBounds_toArray, List.set_cons_zero, List.set_cons_succ, i64_w, i32_w]
      rfl
    refine pure_ (i := 22) (N := some 41) (v := undef) (a' := ?_) #[true, true, true, true, true, true, true, true, true, true, true, true, true, true, true, true, true, true, true, true, true, true, true, false] rfl rfl (by kernel_rfl) (fun _ _ _ h => h) (Or.inr ⟨by rfl, rfl⟩) ?_ ?_
    rotate_left
    · simp only [Act.put, List.setIfInBounds_toArray, List.set_cons_zero, List.set_cons_succ, i64_w, i32_w]
      rfl
    refine pure_ (i := 23) (N := some 42) (v := ?_) (a' := ?_) #[true, true, true, true, true, true, true, true, true, true, true, true, true, true, true, true, true, true, true, true, true, true, true, true] rfl rfl (by kernel_rfl) (fun _ _ _ h => h) (Or.inl ⟨by rfl, ?_⟩) ?_ ?_
    rotate_left
    · intro w'
      go_simp
      with_reducible rfl
    rotate_left
    · simp only [Act.put, List.setIfInBounds_toArray, List.set_cons_zero, List.set_cons_succ, i64_w, i32_w]
      rfl
    refine done_ (by kernel_rfl) ?_
    go_wp2
    go_roundg (cl.length - (j + 1))
    case measure => have := hg.out; omega
    case rel => exact ⟨j + 1, o, f, by simp, rfl, rfl, ⟨by have := hg.out; omega⟩, HB5, HLL⟩
def slices_Index_int_int.l0 : Nat → List Int → Int → Int → Int → Option (Int)
  | 0, _, _, _, _ => none
  | k + 1, x0, x1, x7, x8 => if x8 < x7 then (if 0 ≤ x8 then (if x8 < (x0.length : Int) then (if x1 = (rd x0 x8) then (some x8) else (slices_Index_int_int.l0 k x0 x1 x7 (wrap64 (x8 + 1)))) else (none)) else (none)) else (some (-1))
def slices_Index_int_int.f (k : Nat) (l0 : List Int) (a1 : Int) : Option (Int) := slices_Index_int_int.l0 k l0 a1 (l0.length : Int) 0
set_option maxHeartbeats 8000000 in
set_option maxRecDepth 100000 in
theorem slices_Index_int_int.calls (k : Nat) (A0 : Option Addr) (c0 : Nat) (l0 : List Int) (a1 : Int) (r : Int) (w : World) (hr0 : Kd.C (Kd.int .i64) w A0 l0.length l0) (hc0 : l0.length ≤ c0) (h : slices_Index_int_int.f k l0 a1 = some r) :
    Calls Try.prog 88 #[.slice A0 l0.length c0, .int .i64 a1] w fun e w' => e = .returned (.int .i64 r) ∧ Drawn0 w w' := by
  have HR0 := K0 hr0
  have HC0 := K0 hc0
  clear hr0 hc0
  have H : (slices_Index_int_int.l0 k l0 a1 (l0.length : Int) 0) = some r := h
  clear h
  have H' := K0 H
  clear H
  go_enter Try.func88, Try.ntmps88
  go_wp2
  go_loopg [8] k (fun kq v8 w' => ∃ (x8_1 : Int), v8 = .int .i64 x8_1 ∧ Aside0 (slices_Index_int_int.l0 kq l0 a1 (l0.length : Int) x8_1 = some r) ∧ Aside0 (kq ≤ k) ∧ Drawn0 w w')
  case atStart => exact ⟨(0), (by first | rfl | (simp; done) | (simp [*]; done)), H', ⟨Nat.le_refl _⟩, by repeat (first | exact Drawn0.refl _ | apply Drawn0.step)⟩
  case round =>
    clear H'
    try clear p2
    obtain ⟨x8_1, rfl, HA, HK1, ⟨m1, rfl⟩⟩ := hrel
    cases gk with
    | zero => exact absurd HA.out (by simp [slices_Index_int_int.l0])
    | succ k1 =>
      have H := HA.out
      clear HA
      simp only [slices_Index_int_int.l0] at H
      by_cases c3 : x8_1 < (l0.length : Int)
      · rw [if_pos c3] at H
        have c3b0 : decide (x8_1 < (l0.length : Int)) = true := decide_eq_true c3
        clear c3
        by_cases c4 : 0 ≤ x8_1
        · rw [if_pos c4] at H
          have c4b0 : decide (0 ≤ x8_1) = true := decide_eq_true c4
          clear c4
          by_cases c5 : x8_1 < (l0.length : Int)
          · rw [if_pos c5] at H
            have c5b0 : decide (x8_1 < (l0.length : Int)) = true := decide_eq_true c5
            clear c5
            by_cases c6 : a1 = (rd l0 x8_1)
            · rw [if_pos c6] at H
              have c6b0 : (a1 == (rd l0 x8_1)) = true := beq_iff_eq.mpr c6
              have c6b1 : (a1 != (rd l0 x8_1)) = false := bne_eq_false_iff_eq.mpr c6
              clear c6
              as_aux_lemma =>
                obtain rfl := Option.some.inj H
                have p304 : 0 ≤ (x8_1 : Int) := of_decide_eq_true (by first | (with_reducible assumption) | assumption)
                have q304 : x8_1 < (l0.length : Int) := of_decide_eq_true (by first | (with_reducible assumption) | assumption)
                obtain ⟨ad304, e304, hx304_0⟩ := Kd.at_int HR0.out x8_1 p304 q304
                cases e304
                replace p304 := eq_true p304
                replace q304 := eq_true q304
                go_wp2
                go_ret
                exact ⟨by first | rfl | (simp; done) | (simp [*]; done), by repeat (first | exact Drawn0.refl _ | apply Drawn0.step)⟩
            · rw [if_neg c6] at H
              have c6b0 : (a1 == (rd l0 x8_1)) = false := beq_eq_false_iff_ne.mpr c6
              have c6b1 : (a1 != (rd l0 x8_1)) = true := bne_iff_ne.mpr c6
              as_aux_lemma =>
                have H' := K0 H
                clear H
                have p304 : 0 ≤ (x8_1 : Int) := of_decide_eq_true (by first | (with_reducible assumption) | assumption)
                have q304 : x8_1 < (l0.length : Int) := of_decide_eq_true (by first | (with_reducible assumption) | assumption)
                obtain ⟨ad304, e304, hx304_0⟩ := Kd.at_int HR0.out x8_1 p304 q304
                cases e304
                replace p304 := eq_true p304
                replace q304 := eq_true q304
                go_wp2
                go_roundg k1
                case measure => have := HK1.out; omega
                case rel => exact ⟨(wrap64 (x8_1 + 1)), (by first | rfl | (simp; done) | (simp [*]; done)), H', ⟨by have := HK1.out; omega⟩, by repeat (first | exact Drawn0.refl _ | apply Drawn0.step)⟩
          · rw [if_neg c5] at H
            exact absurd H (by simp)
        · rw [if_neg c4] at H
          exact absurd H (by simp)
      · rw [if_neg c3] at H
        have c3b0 : decide (x8_1 < (l0.length : Int)) = false := decide_eq_false c3
        clear c3
        as_aux_lemma =>
          obtain rfl := Option.some.inj H
          go_wp2
          go_ret
          exact ⟨by first | rfl | (simp; done) | (simp [*]; done), by repeat (first | exact Drawn0.refl _ | apply Drawn0.step)⟩
end Go.Proofs.Ytkmlekfmccghjaa.P
