import Derived.Test.YtkmlekfmccghjaaKUnitPlaysW
import Derived.Test.YtkmlekfmccghjaaProg
import Derived.Below
import Derived.Deep.Draws
import Derived.Deep.AppendLies
import Derived.Maps.AppendAt
import Derived.OwnWalk
import Derived.Laws.BytesArg
import Derived.Laws.MakeOwn
import Derived.Laws.OwnMore
import Derived.Deep.OwnRows
import Derived.Tactics
import Derived.Lib.ConvBytes
import Derived.Laws.Slices
import Derived.WalkKit
import Derived.KernelRfl
import Derived.RowKit3
import Derived.Deep.LoopGhost
import Derived.Deep.QuietTactic
import Derived.BigQuiet
import Derived.WideLaws
import Derived.Deep.DeepCutAuto
import Derived.Deep.CutBlock
import Derived.Deep.RegionHeld3
import Derived.Laws.Rows
import Derived.Lib.AppendStr
import Derived.ArgAppend
import Derived.Laws.IdiomCopy
import Derived.OrdersHeld
import Derived.Laws.BitsLemmas
import Derived.RowKit
import Derived.Maps.OwnSet
import Derived.Maps.OwnOps
import Derived.Maps.Views
import Derived.StillTailTactics
namespace Go.Proofs.Ytkmlekfmccghjaa.P
open Go.RowKit Go.Proofs.YtkmlekfmccghjaaW.PrintWords Go.Proofs.YtkmlekfmccghjaaW.PrintLast Go.Proofs.YtkmlekfmccghjaaW.PrintMore
attribute [local go_sem] max2_int min2_int max_two min_two max_three min_three max_four min_four
set_option linter.unusedVariables false
set_option linter.unusedSimpArgs false
def errW : Option Int → Value
  | none => .nilIface
  | some c => .iface 0 (.int .i64 c)
theorem errW_none : errW none = .nilIface := rfl
theorem errW_some (c : Int) : errW (some c) = .iface 0 (.int .i64 c) := rfl
theorem info3 : (Try.prog.info? 3).map (fun i => (i.zero, i.size, i.bytes)) = some (some (.int .i64 0), 1, 8) := by kernel_rfl
theorem info37 : (Try.prog.info? 37).map (fun i => (i.zero, i.size, i.bytes)) = some (some (.slice none 0 0), 1, 24) := by kernel_rfl
def rd_L3 (xs : List (List Int)) (i : Int) : (List Int) := xs.getD i.toNat ([] : List Int)
theorem at_L3 {w : World} {A : Option Addr} {n : Nat} {xs : List (List Int)} (h : Kd.C (Kd.slice 3 (Kd.int .i64)) w A n xs) (i : Int) (h0 : 0 ≤ i) (h1 : i < n) : ∃ ad A0 c0, A = some ad ∧ w.cell? (ad.add i.toNat) = some (.slice A0 (rd_L3 xs i).length c0) ∧ (rd_L3 xs i).length ≤ c0 ∧ (Kd.int .i64).C w A0 (rd_L3 xs i).length (rd_L3 xs i) := by
  obtain ⟨ad, c, e, _, hK, hc0⟩ := Kd.C_get h ([] : List Int) i h0 h1
  have hc : ∀ j u, c[j]? = some u → w.cell? (ad.add (i.toNat * 1 + j)) = some u := hc0
  obtain ⟨A0, c0, rfl, l0, g0⟩ := hK
  exact ⟨ad, A0, c0, e, by have hq := hc 0 _ rfl; rwa [Nat.mul_one, Nat.add_zero] at hq, l0, g0⟩
structure S39 where
  f0 : Int
  f1 : Int
  f2 : (List Int)
def z39 : S39 := ⟨(0 : Int), (0 : Int), ([] : List Int)⟩
def k39 : Kd S39 := Kd.iso (Kd.pair (Kd.int .i64) (Kd.pair (Kd.int .i64) (Kd.slice 3 (Kd.int .i64)))) (fun x : S39 => (x.f0, x.f1, x.f2))
theorem k39_open {w : World} {x : S39} {cs : List Value} (h : k39.K w x cs) : ∃ A2 c2, cs = [.int .i64 x.f0, .int .i64 x.f1, .slice A2 x.f2.length c2] ∧ x.f2.length ≤ c2 ∧ (Kd.int .i64).C w A2 x.f2.length x.f2 := by
  obtain ⟨_, _, rfl, rfl, ⟨_, _, rfl, rfl, ⟨A2, c2, rfl, l2, g2⟩⟩⟩ := h
  exact ⟨A2, c2, rfl, l2, g2⟩
def rd_T39 (xs : List S39) (i : Int) : S39 := xs.getD i.toNat z39
theorem at_T39 {w : World} {A : Option Addr} {n : Nat} {xs : List S39} (h : Kd.C k39 w A n xs) (i : Int) (h0 : 0 ≤ i) (h1 : i < n) : ∃ ad A2 c2, A = some ad ∧ w.cell? (ad.add (i.toNat * 3)) = some (.int .i64 (rd_T39 xs i).f0) ∧ w.cell? ⟨(ad.add (i.toNat * 3)).block, (ad.add (i.toNat * 3)).off + 1, none⟩ = some (.int .i64 (rd_T39 xs i).f1) ∧ w.cell? ⟨(ad.add (i.toNat * 3)).block, (ad.add (i.toNat * 3)).off + 2, none⟩ = some (.slice A2 (rd_T39 xs i).f2.length c2) ∧ (rd_T39 xs i).f2.length ≤ c2 ∧ (Kd.int .i64).C w A2 (rd_T39 xs i).f2.length (rd_T39 xs i).f2 := by
  obtain ⟨ad, c, e, _, hK, hc0⟩ := Kd.C_get h z39 i h0 h1
  have hc : ∀ j u, c[j]? = some u → w.cell? (ad.add (i.toNat * 3 + j)) = some u := hc0
  obtain ⟨A2, c2, rfl, l2, g2⟩ := k39_open hK
  exact ⟨ad, A2, c2, e, hc 0 _ rfl, by rw [← add_field _ _ 1 (by omega)]; exact hc 1 _ rfl, by rw [← add_field _ _ 2 (by omega)]; exact hc 2 _ rfl, l2, g2⟩
def heldR (v : Value) : Option (DataW Value × List MemPlace) := some (.held v, [])
def KeysI (D : DataW Value) : Prop := ∃ es, D = .map es ∧ es.Pairwise (fun p q => p.1 ≠ q.1) ∧ ∀ p ∈ es, ∃ x : Int, p.1 = .int .i64 x
def MapI (P : Program) (k : TypeId) (w : World) (b : Nat) (f : Int → Option Value) : Prop :=
  ∃ D, w.ownsMap P k heldR b (Maps.size D) D ∧ KeysI D ∧ ∀ x : Int, Maps.has D (.int .i64 x) = (f x).isSome ∧ ∀ z, D.atKey (.int .i64 x) (.held z) = .held ((f x).getD z)
section
variable {P : Program} {k : TypeId} {w : World} {b : Nat} {f : Int → Option Value}
theorem ownsMap_tight {R : Value → Option (DataW Value × List MemPlace)} {n : Nat} {D : DataW Value} (h : w.ownsMap P k R b n D) : w.ownsMap P k R b (Maps.size D) D := by
  obtain ⟨es, clock, hb, F, hs, rfl⟩ := h
  exact ⟨es, clock, hb, F, by simp [Maps.size, Go.length_sorted], rfl⟩
theorem KeysI.tidy {D : DataW Value} (h : KeysI D) : Maps.Tidy D := by
  obtain ⟨es, e, hp, _⟩ := h
  exact ⟨es, e, hp⟩
theorem mem_insert_lit {x y : Lit × DataW Value} : ∀ {l : List (Lit × DataW Value)}, y ∈ DataW.insert x l → y = x ∨ y ∈ l
  | [], h => by simp [DataW.insert] at h; exact .inl h
  | z :: r, h => by
    unfold DataW.insert at h
    split at h
    · rcases List.mem_cons.1 h with h | h
      · exact .inl h
      · exact .inr h
    · rcases List.mem_cons.1 h with h | h
      · exact .inr (by simp [h])
      · rcases mem_insert_lit h with h | h
        · exact .inl h
        · exact .inr (by simp [h])
theorem KeysI.put {D : DataW Value} (h : KeysI D) (x : Int) (d : DataW Value) : KeysI (D.put (.int .i64 x) d) := by
  obtain ⟨es', e', hp'⟩ := h.tidy.put (k := .int .i64 x) trivial d
  refine ⟨es', e', hp', fun p hp => ?_⟩
  obtain ⟨es, rfl, _, hk⟩ := h
  unfold DataW.put at e'
  injection e' with e'
  rw [← e'] at hp
  rcases mem_insert_lit hp with rfl | hp
  · exact ⟨x, rfl⟩
  · exact hk p (List.mem_filter.1 hp).1
theorem KeysI.del {D : DataW Value} (h : KeysI D) (x : Int) : KeysI (D.del (.int .i64 x)) := by
  obtain ⟨es', e', hp'⟩ := h.tidy.del (.int .i64 x)
  refine ⟨es', e', hp', fun p hp => ?_⟩
  obtain ⟨es, rfl, _, hk⟩ := h
  unfold DataW.del at e'
  injection e' with e'
  rw [← e'] at hp
  exact hk p (List.mem_filter.1 hp).1
theorem nodup_le : ∀ {K L : List Int}, K.Nodup → (∀ x ∈ K, x ∈ L) → K.length ≤ L.length
  | [], _, _, _ => by simp
  | x :: K, L, hn, h => by
    obtain ⟨h1, h2⟩ := List.nodup_cons.1 hn
    have hx := h x (by simp)
    have := nodup_le (K := K) (L := L.erase x) h2 (fun y hy => (List.mem_erase_of_ne (by rintro rfl; exact h1 hy)).2 (h y (by simp [hy])))
    rw [List.length_erase_of_mem hx] at this
    have := List.length_pos_of_mem hx
    rw [List.length_cons]; omega
theorem size_le_cover {D : DataW Value} (hD : KeysI D) (hf : ∀ x : Int, Maps.has D (.int .i64 x) = (f x).isSome) (L : List Int) (hL : ∀ x, (f x).isSome = true → x ∈ L) : Maps.size D ≤ L.length := by
  obtain ⟨es, rfl, hp, hk⟩ := hD
  let g : Lit × DataW Value → Int := fun p => match p.1 with | .int _ x => x | _ => 0
  have hg : ∀ p ∈ es, p.1 = .int .i64 (g p) := fun p hp => by
    obtain ⟨x, e⟩ := hk p hp
    show p.1 = .int .i64 (match p.1 with | .int _ x => x | _ => 0)
    rw [e]
  have hn : (es.map g).Nodup := by
    unfold List.Nodup
    rw [List.pairwise_map]
    refine hp.imp_of_mem fun {p q} hp hq hne e => hne ?_
    rw [hg p hp, hg q hq, e]
  have := nodup_le hn (L := L) (fun x hx => by
    obtain ⟨p, hpm, rfl⟩ := List.mem_map.1 hx
    refine hL _ ?_
    rw [← hf]
    rw [Maps.has_eq, List.any_eq_true]
    exact ⟨p, hpm, by rw [hg p hpm]; simp [Lit.sameKey]⟩)
  simpa [Maps.size] using this
theorem MapI.made (w : World) (P : Program) (k : TypeId) : MapI P k (w.alloc (.map #[] 0)) w.heap.size (fun _ => none) :=
  ⟨.map [], World.ownsMap_made w P k heldR, ⟨[], rfl, List.Pairwise.nil, fun p hp => by cases hp⟩, fun x => ⟨rfl, fun z => rfl⟩⟩
theorem MapI.lt (h : MapI P k w b f) : b < w.heap.size := by
  obtain ⟨D, h, _⟩ := h
  exact h.lt
theorem MapI.block {w' : World} (h : MapI P k w b f) (hb : w'.heap[b]? = w.heap[b]?) : MapI P k w' b f := by
  obtain ⟨D, ⟨es, clock, h1, F, h2⟩, r⟩ := h
  exact ⟨D, ⟨es, clock, hb.trans h1, F, h2⟩, r⟩
theorem MapI.congr {g : Int → Option Value} (h : MapI P k w b f) (e : ∀ x, f x = g x) : MapI P k w b g := by
  rw [← funext e]; exact h
theorem MapI.look {t e : TypeId} (h : MapI P k w b f) (hk : P.underlying k = some (.int .i64)) (ht : P.underlying t = some (.map k e)) {z : Value} (hz : (zeroValue e).run P w = .ok z w) {x : Int} (hx : (Lit.int .i64 x).wf = true) :
    (Instr.lookup t (.map (some b)) (.int .i64 x) false).run P w = .ok ((f x).getD z) w := by
  obtain ⟨D, h, _, hf⟩ := h
  obtain ⟨v, ps, hrun, hv⟩ := h.lookup (Maps.int_keyed hk) ht hz (show heldR z = some (.held z, []) from rfl) (Maps.keyOf_int_mk hk hx)
  rw [(hf x).2 z] at hv
  simp only [heldR, Option.some.injEq, Prod.mk.injEq, DataW.held.injEq] at hv
  rw [hrun, hv.1]
theorem MapI.look_ok {t e : TypeId} (h : MapI P k w b f) (hk : P.underlying k = some (.int .i64)) (ht : P.underlying t = some (.map k e)) {z : Value} (hz : (zeroValue e).run P w = .ok z w) {x : Int} (hx : (Lit.int .i64 x).wf = true) :
    (Instr.lookup t (.map (some b)) (.int .i64 x) true).run P w = .ok (.tuple #[(f x).getD z, .bool (f x).isSome]) w := by
  obtain ⟨D, h, _, hf⟩ := h
  obtain ⟨v, ps, hrun, hv⟩ := h.look_ok (Maps.int_keyed hk) ht hz (show heldR z = some (.held z, []) from rfl) (Maps.keyOf_int_mk hk hx)
  rw [(hf x).2 z] at hv
  simp only [heldR, Option.some.injEq, Prod.mk.injEq, DataW.held.injEq] at hv
  rw [hrun, hv.1, (hf x).1]
def setI (f : Int → Option Value) (x : Int) (v : Option Value) : Int → Option Value := fun y => if y = x then v else f y
theorem MapI.store {t e : TypeId} (h : MapI P k w b f) (hk : P.underlying k = some (.int .i64)) (ht : P.underlying t = some (.map k e)) {x : Int} (hx : (Lit.int .i64 x).wf = true) (v : Value) (L : List Int) (hL : ∀ x, (f x).isSome = true → x ∈ L) (hn : L.length < 4611686018427387904) :
    ∃ w', (Instr.mapUpdate t (.map (some b)) (.int .i64 x) v).run P w = .ok () w' ∧ MapI P k w' b (setI f x (some v)) ∧ w.grownBy w' (some b) := by
  obtain ⟨D, h, hD, hf⟩ := h
  have hsz := size_le_cover hD (fun x => (hf x).1) L hL
  obtain ⟨w', hrun, hown, hg⟩ := h.update (Maps.int_keyed hk) ht (by unfold maxLen; omega) (Maps.keyOf_int_mk hk hx) (show heldR v = some (.held v, []) from rfl)
  refine ⟨w', hrun, ⟨_, ownsMap_tight hown, hD.put x _, fun y => ?_⟩, hg⟩
  unfold setI
  by_cases e : y = x
  · subst e
    rw [if_pos rfl]
    exact ⟨Maps.has_put_same hD.tidy.isMap (show WideAt.IsKeyLit (.int .i64 y) from trivial) _, fun z => Maps.atKey_put_same hD.tidy.isMap (show WideAt.IsKeyLit (.int .i64 y) from trivial) _ _⟩
  · rw [if_neg e]
    have hne : (Lit.int .i64 y) ≠ .int .i64 x := fun h => e (by injection h)
    rw [Maps.has_put_other hne]
    exact ⟨(hf y).1, fun z => by rw [Maps.atKey_put_other hne]; exact (hf y).2 z⟩
theorem MapI.drop {t e : TypeId} (h : MapI P k w b f) (hk : P.underlying k = some (.int .i64)) (ht : P.underlying t = some (.map k e)) {x : Int} (hx : (Lit.int .i64 x).wf = true) (ty : TypeId) :
    ∃ w', (Builtin.delete_ #[t, k] ty #[.map (some b), .int .i64 x]).run P w = .ok (.tuple #[]) w' ∧ MapI P k w' b (setI f x none) ∧ w.grownBy w' (some b) := by
  obtain ⟨D, h, hD, hf⟩ := h
  obtain ⟨w', hrun, hown, ht'⟩ := h.drop (Maps.int_keyed hk) ht (Maps.keyOf_int_mk hk hx) ty
  refine ⟨w', hrun, ⟨_, ownsMap_tight hown, hD.del x, fun y => ?_⟩, ht'.grown⟩
  unfold setI
  by_cases e : y = x
  · subst e
    rw [if_pos rfl]
    exact ⟨Maps.has_del_same, fun z => Maps.atKey_del_same _⟩
  · rw [if_neg e]
    have hne : (Lit.int .i64 y) ≠ .int .i64 x := fun h => e (by injection h)
    rw [Maps.has_del_other hne]
    exact ⟨(hf y).1, fun z => by rw [Maps.atKey_del_other hne]; exact (hf y).2 z⟩
end
section
variable {P : Program} {w : World} {ops : Array Oper} {rest : List Oper} {o : Oper} {a : Act} {Q : Exit → Act → World → Prop}
theorem wpList_store_I (hg : o.guard = none) (m x v : Operand) (t : TypeId) (hop : o.op = Op.mapUpdate t m x v) (k e : TypeId) (hk : P.underlying k = some (.int .i64)) (ht : P.underlying t = some (.map k e)) (b : Nat) (f : Int → Option Value)
    (hm : a.eval m = .map (some b)) (h : MapI P k w b f) (y : Int) (val : Value) (hx : a.eval x = .int .i64 y) (hv : a.eval v = val) (hy : (Lit.int .i64 y).wf = true) (L : List Int) (hL : ∀ x, (f x).isSome = true → x ∈ L) (hn : L.length < 4611686018427387904)
    (hK : ∀ w', MapI P k w' b (setI f y (some val)) → w.grownBy w' (some b) → wpList P ops Q rest (a.put o.dst undef) w') : wpList P ops Q (o :: rest) a w := by
  refine wpList_plain hg fun K' hK' => ?_
  obtain ⟨w', hrun, r1, r2⟩ := h.store hk ht hy val L hL hn
  unfold Oper.wp
  simp [execOp, hop, hm, hx, hv, hrun, Result.andThen]
  exact hK' _ _ (hK w' r1 r2)
end
abbrev Hd := Option Addr × Nat × Nat
def hdv (x : Hd) : Value := .slice x.1 x.2.1 x.2.2
abbrev kH : Kd Hd := Kd.scalar hdv (fun _ => rfl)
def HdOf (W : World) (h : Hd) (x : List Int) : Prop := h.2.1 = x.length ∧ x.length ≤ h.2.2 ∧ Kd.C (Kd.int .i64) W h.1 x.length x
def HdsOf (W : World) (hs : List Hd) (xs : List (List Int)) : Prop := hs.length = xs.length ∧ ∀ (i : Nat) (h : Hd) (x : List Int), hs[i]? = some h → xs[i]? = some x → HdOf W h x
theorem HdsOf.below {W W' : World} {hs : List Hd} {xs : List (List Int)} (h : HdsOf W hs xs) (hb : Below W.heap.size W W') : HdsOf W' hs xs :=
  ⟨h.1, fun i a b ha hb' => ⟨(h.2 i a b ha hb').1, (h.2 i a b ha hb').2.1, Kd.C_below (h.2 i a b ha hb').2.2 hb⟩⟩
theorem HdsOf.add {W : World} {hs : List Hd} {xs : List (List Int)} {h : Hd} {x : List Int} (H : HdsOf W hs xs) (h1 : HdOf W h x) : HdsOf W (hs ++ [h]) (xs ++ [x]) := by
  refine ⟨by simp [H.1], fun i a b ha hb => ?_⟩
  rw [List.getElem?_append] at ha hb
  rw [H.1] at ha
  split at ha
  · rename_i hlt
    rw [if_pos hlt] at hb
    exact H.2 i a b ha hb
  · rename_i hlt
    rw [if_neg hlt] at hb
    have h0 : i - xs.length = 0 := by have := (List.getElem?_eq_some_iff.1 hb).1; simp at this; omega
    rw [h0] at ha hb
    simp at ha hb
    rw [← ha, ← hb]
    exact h1
structure Eng where
  n : Int
  cls : List (List Int)
  wt : Int → List Int
  ws : Nat
  tr : List Int
  ms : Int → Option (Int × Int)
  st : List Int
  br : Int
def Eng.Lits (E : Eng) : Prop := ∀ c ∈ E.cls, ∀ x ∈ c, (Lit.int .i64 x).wf = true
structure EngP where
  vC : Value
  hs : List Hd
  vT : Value
  vS : Value
  bw : Nat
  bm : Nat
  fw : Int → Option Value
def EngCells (E : Eng) (p : EngP) : Array Value := #[.int .i64 E.n, p.vC, .map (some p.bw), p.vT, .map (some p.bm), p.vS, .int .i64 E.br]
def mkV (f : Int → Option (Int × Int)) (x : Int) : Option Value := (f x).map fun q => .agg #[.int .i64 q.1, .int .i64 q.2]
abbrev Tag := Nat → Int × Int
structure EngIn (w : World) (B : Nat) (T : Tag) (E : Eng) (p : EngP) : Prop where
  fresh : ∀ k, w.heap.size ≤ k → T k = (0, 0)
  blk : w.heap[B]? = some (.cells (EngCells E p) 71 (0, 0))
  tB : T B = (1, 0)
  cls : Kd.R kH 37 w 0 (fun k => T k = (2, 0)) p.vC p.hs
  len : p.hs.length = E.cls.length
  rows : ∀ (i : Nat) (h : Hd) (c : List Int), p.hs[i]? = some h → E.cls[i]? = some c → Kd.R (Kd.int .i64) 3 w 0 (fun k => T k = (3, 0)) (hdv h) c
  tr : Kd.R (Kd.int .i64) 3 w 0 (fun k => T k = (4, 0)) p.vT E.tr
  st : Kd.R (Kd.int .i64) 3 w 0 (fun k => T k = (5, 0)) p.vS E.st
  ms : MapI Try.prog 3 w p.bm (mkV E.ms)
  tM : T p.bm = (6, 0)
  mst : ∀ x, (E.ms x).isSome = true → x ∈ E.tr
  wt : MapI Try.prog 3 w p.bw p.fw
  tW : T p.bw = (7, 0)
  grp : ∀ x, Kd.R (Kd.int .i64) 3 w 0 (fun k => T k = (8, x)) ((p.fw x).getD (.slice none 0 0)) (E.wt x)
  cov : ∃ L : List Int, (∀ x, (p.fw x).isSome = true → x ∈ L) ∧ L.length ≤ E.ws
  wsz : ∀ x, (E.wt x).length ≤ E.ws
structure Moved (T T' : Tag) (W W' : World) : Prop where
  os : W'.os = W.os
  tape : W'.tape = W.tape
  output : W'.output = W.output
  size : W.heap.size ≤ W'.heap.size
  old : ∀ k, k < W.heap.size → T' k = T k ∧ (T k = (0, 0) → W'.heap[k]? = W.heap[k]?)
def EngPost (B : Nat) (T : Tag) (p : EngP) (E' : Eng) (W W' : World) : Prop := ∃ T' p', EngIn W' B T' E' p' ∧ Moved T T' W W' ∧ p'.fw = p.fw
theorem Moved.refl (T : Tag) (W : World) : Moved T T W W := ⟨rfl, rfl, rfl, Nat.le_refl _, fun _ _ => ⟨rfl, fun _ => rfl⟩⟩
theorem Moved.trans {T T' T'' : Tag} {W W' W'' : World} (h : Moved T T' W W') (k : Moved T' T'' W' W'') : Moved T T'' W W'' :=
  ⟨k.os.trans h.os, k.tape.trans h.tape, k.output.trans h.output, Nat.le_trans h.size k.size, fun i hi => by
    obtain ⟨a1, a2⟩ := h.old i hi
    obtain ⟨b1, b2⟩ := k.old i (Nat.lt_of_lt_of_le hi h.size)
    exact ⟨b1.trans a1, fun e => (b2 (a1.trans e)).trans (a2 e)⟩⟩
theorem Moved.of_below {T : Tag} {W W' : World} (h : Below W.heap.size W W') : Moved T T W W' := ⟨h.os, h.tape, h.output, h.size, fun k hk => ⟨rfl, fun _ => h.block k hk⟩⟩
theorem Moved.below {T T' : Tag} {W W' : World} (h : Moved T T' W W') (n : Nat) (hn : n ≤ W.heap.size) (h0 : ∀ k, k < n → T k = (0, 0)) : Below n W W' := ⟨h.os, h.tape, h.output, h.size, fun k hk => (h.old k (by omega)).2 (h0 k hk)⟩
section
variable {α : Type} {d : Kd α} {e : Nat} {w w1 : World} {T T' : Tag} {t : Int × Int} {v : Value} {xs : List α}
theorem R_tag (h : d.R e w 0 (fun k => T k = t) v xs) (hm : ∀ k, k < w.heap.size → T k = t → w1.heap[k]? = w.heap[k]?) (hT : ∀ k, k < w.heap.size → T' k = T k) : d.R e w1 0 (fun k => T' k = t) v xs := by
  have h1 := Kd.R_bound h
  have h2 := Kd.R_step h1 (w1 := w1) (fun k hk hlt => hm k hlt hk.1)
  exact Kd.R_mono h2 (fun k hk => (hT k hk.2.2.1).trans hk.1)
end
def retag (T : Tag) (W : World) (v : Value) (t : Int × Int) : Tag := fun k => if W.heap.size ≤ k ∧ v.ownBlock = some k then t else T k
theorem retag_old {T : Tag} {W : World} {v : Value} {t : Int × Int} (k : Nat) (hk : k < W.heap.size) : retag T W v t k = T k := if_neg (fun h => by omega)
theorem R_retag {α : Type} {enc : α → Value} {h1 : ∀ x, (enc x).oneCell' = true} {e : Nat} {W w1 : World} {T : Tag} {t : Int × Int} {v : Value} {xs : List α} {ok : Nat → Prop} (h : (Kd.scalar enc h1).R e w1 0 ok v xs) (hok : ∀ k, ok k → k < W.heap.size → T k = t) : (Kd.scalar enc h1).R e w1 0 (fun k => retag T W v t k = t) v xs := by
  refine Kd.R_of_own (Kd.own_of_R h) (fun k hk => ?_)
  unfold retag
  by_cases hlt : k < W.heap.size
  · rw [if_neg (fun h => by omega)]
    exact hok k (h.1 k hk) hlt
  · rw [if_pos ⟨by omega, hk⟩]
section
variable {w w1 : World} {B : Nat} {T : Tag} {E : Eng} {p : EngP}
theorem EngIn.below (h : EngIn w B T E p) (hb : Below w.heap.size w w1) : EngIn w1 B T E p where
  fresh k hk := h.fresh k (Nat.le_trans hb.size hk)
  blk := blk_below h.blk hb
  tB := h.tB
  cls := Kd.R_below h.cls hb
  len := h.len
  rows i a c ha hc := Kd.R_below (h.rows i a c ha hc) hb
  tr := Kd.R_below h.tr hb
  st := Kd.R_below h.st hb
  ms := h.ms.block (hb.block _ h.ms.lt)
  tM := h.tM
  mst := h.mst
  wt := h.wt.block (hb.block _ h.wt.lt)
  tW := h.tW
  grp x := Kd.R_below (h.grp x) hb
  cov := h.cov
  wsz := h.wsz
theorem EngIn.lt (h : EngIn w B T E p) : B < w.heap.size := blk_lt h.blk
theorem EngIn.cells (h : EngIn w B T E p) : w.cell? ⟨B, 0, none⟩ = some (.int .i64 E.n) ∧ w.cell? ⟨B, 1, none⟩ = some p.vC ∧ w.cell? ⟨B, 2, none⟩ = some (.map (some p.bw)) ∧ w.cell? ⟨B, 3, none⟩ = some p.vT ∧ w.cell? ⟨B, 4, none⟩ = some (.map (some p.bm)) ∧ w.cell? ⟨B, 5, none⟩ = some p.vS ∧ w.cell? ⟨B, 6, none⟩ = some (.int .i64 E.br) ∧ ∀ i, w.frozen? ⟨B, i, none⟩ = false :=
  ⟨blk_cell h.blk 0, blk_cell h.blk 1, blk_cell h.blk 2, blk_cell h.blk 3, blk_cell h.blk 4, blk_cell h.blk 5, blk_cell h.blk 6, fun i => blk_frozen h.blk i⟩
theorem tag_ne {a b : Int} (h : a ≠ b) (x y : Int) : ((a, x) : Int × Int) ≠ (b, y) := fun e => h (congrArg Prod.fst e)
theorem EngIn.kept {T' : Tag} (S : Int × Int → Prop) (h : EngIn w B T E p) (hm : ∀ k, k < w.heap.size → ¬ S (T k) → w1.heap[k]? = w.heap[k]?) (hT : ∀ k, k < w.heap.size → T' k = T k) :
    (¬ S (1, 0) → w1.heap[B]? = some (.cells (EngCells E p) 71 (0, 0))) ∧ T' B = (1, 0) ∧ (¬ S (2, 0) → Kd.R kH 37 w1 0 (fun k => T' k = (2, 0)) p.vC p.hs) ∧
    (¬ S (3, 0) → ∀ (i : Nat) (a : Hd) (c : List Int), p.hs[i]? = some a → E.cls[i]? = some c → Kd.R (Kd.int .i64) 3 w1 0 (fun k => T' k = (3, 0)) (hdv a) c) ∧
    (¬ S (4, 0) → Kd.R (Kd.int .i64) 3 w1 0 (fun k => T' k = (4, 0)) p.vT E.tr) ∧ (¬ S (5, 0) → Kd.R (Kd.int .i64) 3 w1 0 (fun k => T' k = (5, 0)) p.vS E.st) ∧
    (¬ S (6, 0) → MapI Try.prog 3 w1 p.bm (mkV E.ms)) ∧ T' p.bm = (6, 0) ∧ (¬ S (7, 0) → MapI Try.prog 3 w1 p.bw p.fw) ∧ T' p.bw = (7, 0) ∧
    (∀ x, ¬ S (8, x) → Kd.R (Kd.int .i64) 3 w1 0 (fun k => T' k = (8, x)) ((p.fw x).getD (.slice none 0 0)) (E.wt x)) := by
  have hr : ∀ {α : Type} {d : Kd α} {e : Nat} {u : Int × Int} {v : Value} {xs : List α}, d.R e w 0 (fun k => T k = u) v xs → ¬ S u → d.R e w1 0 (fun k => T' k = u) v xs := fun hr hne =>
    R_tag hr (fun k hk e => hm k hk (fun e' => hne (e ▸ e'))) hT
  exact ⟨fun hne => (hm B h.lt (by rw [h.tB]; exact hne)).trans h.blk, (hT B h.lt).trans h.tB, hr h.cls, fun hne i a c ha hc => hr (h.rows i a c ha hc) hne, hr h.tr, hr h.st,
    fun hne => h.ms.block (hm _ h.ms.lt (by rw [h.tM]; exact hne)), (hT _ h.ms.lt).trans h.tM, fun hne => h.wt.block (hm _ h.wt.lt (by rw [h.tW]; exact hne)), (hT _ h.wt.lt).trans h.tW, fun x hne => hr (h.grp x) hne⟩
theorem grown_store {W W1 : World} {T : Tag} {v : Value} {t : Int × Int} (hg : W.grownBy W1 v.ownBlock) (hv : ∀ k, v.ownBlock = some k → T k = t) (hB : B < W.heap.size) (tB : T B = (1, 0)) (i : Nat) (u : Value) :
    (∀ k, k < W.heap.size → ¬ (T k = (1, 0) ∨ T k = t) → (W1.setCell ⟨B, i, none⟩ u).heap[k]? = W.heap[k]?) ∧ (W1.setCell ⟨B, i, none⟩ u).heap.size = W1.heap.size ∧ W.heap.size ≤ W1.heap.size := by
  refine ⟨fun k hk hn => ?_, by simp, hg.size⟩
  rw [Below.heap_setCell W1 _ u k (fun e => hn (.inl (by rw [e]; exact tB)))]
  exact hg.block k hk (fun e => hn (.inr (hv k e.symm)))
theorem blk_after {W W1 : World} {v : Value} {t : Int × Int} {cs cs' : Array Value} {tt : Nat} (hb : W.heap[B]? = some (.cells cs tt (0, 0))) (hg : W.grownBy W1 v.ownBlock) (hv : ∀ k, v.ownBlock = some k → T k = t) (tB : T B = (1, 0)) (hne : t ≠ (1, 0)) (i : Nat) (u : Value) (e : cs.setIfInBounds i u = cs') :
    (W1.setCell ⟨B, i, none⟩ u).heap[B]? = some (.cells cs' tt (0, 0)) := blk_put (blk_grown hb hg (fun e' => hne ((hv B e'.symm).symm.trans tB))) i u e
theorem R_far_set {α : Type} {d : Kd α} {e : Nat} {W : World} {T : Tag} {t : Int × Int} {v : Value} {xs : List α} (h : d.R e W 0 (fun k => T k = t) v xs) (tB : T B = (1, 0)) (hne : t ≠ (1, 0)) (i : Nat) (u : Value) : d.R e (W.setCell ⟨B, i, none⟩ u) 0 (fun k => T k = t) v xs :=
  Kd.R_far h (fun k hk e => hne (by rw [← hk, e]; exact tB)) u
theorem moved_grown {W W2 : World} {T' : Tag} {t : Int × Int} (hfr : W2.os = W.os ∧ W2.tape = W.tape ∧ W2.output = W.output) (hs : W.heap.size ≤ W2.heap.size) (hm : ∀ k, k < W.heap.size → ¬ (T k = (1, 0) ∨ T k = t) → W2.heap[k]? = W.heap[k]?) (hT : ∀ k, k < W.heap.size → T' k = T k) (ht : t ≠ (0, 0)) : Moved T T' W W2 :=
  ⟨hfr.1, hfr.2.1, hfr.2.2, hs, fun k hk => ⟨hT k hk, fun e => hm k hk (fun h => h.elim (fun h => by rw [e] at h; exact absurd h (by decide)) (fun h => ht (h.symm.trans e)))⟩⟩
theorem EngIn.turn_tr (h : EngIn w B T E p) {v1 : Value} {ys : List Int} (hR : Kd.R (Kd.int .i64) 3 w1 0 (fun k => T k = (4, 0) ∨ w.heap.size ≤ k) v1 ys) (hg : w.grownBy w1 p.vT.ownBlock) (hk : ∀ x, (E.ms x).isSome = true → x ∈ ys) :
    EngIn (w1.setCell ⟨B, 3, none⟩ v1) B (retag T w v1 (4, 0)) { E with tr := ys } { p with vT := v1 } ∧ Moved T (retag T w v1 (4, 0)) w (w1.setCell ⟨B, 3, none⟩ v1) := by
  have hv := h.tr.1
  obtain ⟨hm, hs1, hs2⟩ := grown_store hg hv h.lt h.tB 3 v1
  have hT : ∀ k, k < w.heap.size → retag T w v1 (4, 0) k = T k := retag_old
  obtain ⟨k1, k2, k3, k4, k5, k6, k7, k8, k9, k10, k11⟩ := h.kept (S := fun t => t = (1, 0) ∨ t = (4, 0)) hm hT
  have no : ∀ {a b : Int}, a ≠ 1 → a ≠ 4 → ¬ (((a, b) : Int × Int) = (1, 0) ∨ ((a, b) : Int × Int) = (4, 0)) := fun h1 h4 e => e.elim (fun e => h1 (congrArg Prod.fst e)) (fun e => h4 (congrArg Prod.fst e))
  have hR1 := R_retag (W := w) hR (fun k hk hlt => hk.resolve_right (by omega))
  refine ⟨{ fresh := fun k hk => ?_, blk := blk_after h.blk hg hv h.tB (by decide) 3 v1 rfl, tB := k2, cls := k3 (no (by decide) (by decide)), len := h.len, rows := k4 (no (by decide) (by decide)), tr := R_far_set hR1 k2 (by decide) 3 v1, st := k6 (no (by decide) (by decide)), ms := k7 (no (by decide) (by decide)), tM := k8, mst := hk, wt := k9 (no (by decide) (by decide)), tW := k10, grp := fun x => k11 x (no (by decide) (by decide)), cov := h.cov, wsz := h.wsz }, moved_grown ⟨hg.os, hg.tape, hg.output⟩ (by rw [hs1]; exact hs2) hm hT (by decide)⟩
  rw [hs1] at hk
  unfold retag
  rw [if_neg, h.fresh k (by omega)]
  rintro ⟨_, e⟩
  obtain ⟨inner, ho⟩ := Kd.R_own hR
  have := own_lt ho k e
  omega
theorem EngIn.turn_st (h : EngIn w B T E p) {v1 : Value} {ys : List Int} (hR : Kd.R (Kd.int .i64) 3 w1 0 (fun k => T k = (5, 0) ∨ w.heap.size ≤ k) v1 ys) (hg : w.grownBy w1 p.vS.ownBlock) :
    EngIn (w1.setCell ⟨B, 5, none⟩ v1) B (retag T w v1 (5, 0)) { E with st := ys } { p with vS := v1 } ∧ Moved T (retag T w v1 (5, 0)) w (w1.setCell ⟨B, 5, none⟩ v1) := by
  have hv := h.st.1
  obtain ⟨hm, hs1, hs2⟩ := grown_store hg hv h.lt h.tB 5 v1
  have hT : ∀ k, k < w.heap.size → retag T w v1 (5, 0) k = T k := retag_old
  obtain ⟨k1, k2, k3, k4, k5, k6, k7, k8, k9, k10, k11⟩ := h.kept (S := fun t => t = (1, 0) ∨ t = (5, 0)) hm hT
  have no : ∀ {a b : Int}, a ≠ 1 → a ≠ 5 → ¬ (((a, b) : Int × Int) = (1, 0) ∨ ((a, b) : Int × Int) = (5, 0)) := fun h1 h4 e => e.elim (fun e => h1 (congrArg Prod.fst e)) (fun e => h4 (congrArg Prod.fst e))
  have hR1 := R_retag (W := w) hR (fun k hk hlt => hk.resolve_right (by omega))
  refine ⟨{ fresh := fun k hk => ?_, blk := blk_after h.blk hg hv h.tB (by decide) 5 v1 rfl, tB := k2, cls := k3 (no (by decide) (by decide)), len := h.len, rows := k4 (no (by decide) (by decide)), tr := k5 (no (by decide) (by decide)), st := R_far_set hR1 k2 (by decide) 5 v1, ms := k7 (no (by decide) (by decide)), tM := k8, mst := h.mst, wt := k9 (no (by decide) (by decide)), tW := k10, grp := fun x => k11 x (no (by decide) (by decide)), cov := h.cov, wsz := h.wsz }, moved_grown ⟨hg.os, hg.tape, hg.output⟩ (by rw [hs1]; exact hs2) hm hT (by decide)⟩
  rw [hs1] at hk
  unfold retag
  rw [if_neg, h.fresh k (by omega)]
  rintro ⟨_, e⟩
  obtain ⟨inner, ho⟩ := Kd.R_own hR
  have := own_lt ho k e
  omega
theorem EngIn.turn_cls (h : EngIn w B T E p) {v1 : Value} {a : Hd} {c : List Int} (hc : Kd.R (Kd.int .i64) 3 w 0 (fun k => T k = (3, 0)) (hdv a) c) (hR : Kd.R kH 37 w1 0 (fun k => T k = (2, 0) ∨ w.heap.size ≤ k) v1 (p.hs ++ [a])) (hg : w.grownBy w1 p.vC.ownBlock) :
    EngIn (w1.setCell ⟨B, 1, none⟩ v1) B (retag T w v1 (2, 0)) { E with cls := E.cls ++ [c] } { p with vC := v1, hs := p.hs ++ [a] } ∧ Moved T (retag T w v1 (2, 0)) w (w1.setCell ⟨B, 1, none⟩ v1) := by
  have hv := h.cls.1
  obtain ⟨hm, hs1, hs2⟩ := grown_store hg hv h.lt h.tB 1 v1
  have hT : ∀ k, k < w.heap.size → retag T w v1 (2, 0) k = T k := retag_old
  obtain ⟨k1, k2, k3, k4, k5, k6, k7, k8, k9, k10, k11⟩ := h.kept (S := fun t => t = (1, 0) ∨ t = (2, 0)) hm hT
  have no : ∀ {a b : Int}, a ≠ 1 → a ≠ 2 → ¬ (((a, b) : Int × Int) = (1, 0) ∨ ((a, b) : Int × Int) = (2, 0)) := fun h1 h4 e => e.elim (fun e => h1 (congrArg Prod.fst e)) (fun e => h4 (congrArg Prod.fst e))
  have hR1 := R_retag (W := w) hR (fun k hk hlt => hk.resolve_right (by omega))
  have hc1 : Kd.R (Kd.int .i64) 3 (w1.setCell ⟨B, 1, none⟩ v1) 0 (fun k => retag T w v1 (2, 0) k = (3, 0)) (hdv a) c := R_tag hc (fun k hk e => hm k hk (by rw [e]; exact no (by decide) (by decide))) hT
  refine ⟨{ fresh := fun k hk => ?_, blk := blk_after h.blk hg hv h.tB (by decide) 1 v1 rfl, tB := k2, cls := R_far_set hR1 k2 (by decide) 1 v1, len := by simp [h.len], rows := fun i b d hb hd => ?_, tr := k5 (no (by decide) (by decide)), st := k6 (no (by decide) (by decide)), ms := k7 (no (by decide) (by decide)), tM := k8, mst := h.mst, wt := k9 (no (by decide) (by decide)), tW := k10, grp := fun x => k11 x (no (by decide) (by decide)), cov := h.cov, wsz := h.wsz }, moved_grown ⟨hg.os, hg.tape, hg.output⟩ (by rw [hs1]; exact hs2) hm hT (by decide)⟩
  · rw [hs1] at hk
    unfold retag
    rw [if_neg, h.fresh k (by omega)]
    rintro ⟨_, e⟩
    obtain ⟨inner, ho⟩ := Kd.R_own hR
    have := own_lt ho k e
    omega
  · have hb : (p.hs ++ [a])[i]? = some b := hb
    have hd : (E.cls ++ [c])[i]? = some d := hd
    rw [List.getElem?_append] at hb hd
    rw [h.len] at hb
    split at hb
    · rename_i hlt
      rw [if_pos hlt] at hd
      exact k4 (no (by decide) (by decide)) i b d hb hd
    · rename_i hlt
      rw [if_neg hlt] at hd
      have h0 : i - E.cls.length = 0 := by have := (List.getElem?_eq_some_iff.1 hd).1; simp at this; omega
      rw [h0] at hb hd
      simp at hb hd
      rw [← hb, ← hd]
      exact hc1
theorem EngIn.turn_br (h : EngIn w B T E p) (n : Int) : EngIn (w.setCell ⟨B, 6, none⟩ (.int .i64 n)) B T { E with br := n } p ∧ Moved T T w (w.setCell ⟨B, 6, none⟩ (.int .i64 n)) := by
  have hg : w.grownBy w (Value.slice none 0 0).ownBlock := ⟨rfl, rfl, rfl, Nat.le_refl _, fun _ _ _ => rfl⟩
  obtain ⟨hm, hs1, hs2⟩ := grown_store (t := (1, 0)) hg (fun k hk => by simp [Value.ownBlock] at hk) h.lt h.tB 6 (.int .i64 n)
  obtain ⟨k1, k2, k3, k4, k5, k6, k7, k8, k9, k10, k11⟩ := h.kept (S := fun t => t = (1, 0) ∨ t = (1, 0)) hm (fun _ _ => rfl)
  have no : ∀ {a b : Int}, a ≠ 1 → ¬ (((a, b) : Int × Int) = (1, 0) ∨ ((a, b) : Int × Int) = (1, 0)) := fun h1 e => e.elim (fun e => h1 (congrArg Prod.fst e)) (fun e => h1 (congrArg Prod.fst e))
  exact ⟨{ fresh := fun k hk => h.fresh k (by rw [hs1] at hk; exact hk), blk := blk_put h.blk 6 _ rfl, tB := k2, cls := k3 (no (by decide)), len := h.len, rows := k4 (no (by decide)), tr := k5 (no (by decide)), st := k6 (no (by decide)), ms := k7 (no (by decide)), tM := k8, mst := h.mst, wt := k9 (no (by decide)), tW := k10, grp := fun x => k11 x (no (by decide)), cov := h.cov, wsz := h.wsz }, moved_grown (t := (1, 0)) ⟨rfl, rfl, rfl⟩ (by rw [hs1]; exact Nat.le_refl _) hm (fun _ _ => rfl) (by decide)⟩
theorem EngIn.turn_ms (h : EngIn w B T E p) {g : Int → Option (Int × Int)} (hM : MapI Try.prog 3 w1 p.bm (mkV g)) (hg : w.grownBy w1 (some p.bm)) (hk : ∀ x, (g x).isSome = true → x ∈ E.tr) :
    EngIn w1 B T { E with ms := g } p ∧ Moved T T w w1 := by
  have hm : ∀ k, k < w.heap.size → ¬ (T k = (6, 0)) → w1.heap[k]? = w.heap[k]? := fun k hk hn => hg.block k hk (fun e => hn (by injection e with e; rw [e]; exact h.tM))
  obtain ⟨k1, k2, k3, k4, k5, k6, k7, k8, k9, k10, k11⟩ := h.kept (S := fun t => t = (6, 0)) hm (fun _ _ => rfl)
  have no : ∀ {a b : Int}, a ≠ 6 → ¬ (((a, b) : Int × Int) = (6, 0)) := fun h1 e => h1 (congrArg Prod.fst e)
  exact ⟨{ fresh := fun k hk => h.fresh k (Nat.le_trans hg.size hk), blk := k1 (no (by decide)), tB := k2, cls := k3 (no (by decide)), len := h.len, rows := k4 (no (by decide)), tr := k5 (no (by decide)), st := k6 (no (by decide)), ms := hM, tM := k8, mst := hk, wt := k9 (no (by decide)), tW := k10, grp := fun x => k11 x (no (by decide)), cov := h.cov, wsz := h.wsz }, ⟨hg.os, hg.tape, hg.output, hg.size, fun k hk => ⟨rfl, fun e => hm k hk (by rw [e]; decide)⟩⟩⟩
theorem EngIn.turn_wt (h : EngIn w B T E p) {w2 : World} {x : Int} {v1 : Value} {ys : List Int} (hR : Kd.R (Kd.int .i64) 3 w1 0 (fun k => T k = (8, x) ∨ w.heap.size ≤ k) v1 ys) (hg : w.grownBy w1 ((p.fw x).getD (.slice none 0 0)).ownBlock)
    (hM : MapI Try.prog 3 w2 p.bw (setI p.fw x (some v1))) (hg2 : w1.grownBy w2 (some p.bw)) (hys : ys.length ≤ E.ws + 1) :
    EngIn w2 B (retag T w v1 (8, x)) { E with wt := fun y => if y = x then ys else E.wt y, ws := E.ws + 1 } { p with fw := setI p.fw x (some v1) } ∧ Moved T (retag T w v1 (8, x)) w w2 ∧
      (∀ {v : Value} {zs : List Int}, Kd.R (Kd.int .i64) 3 w 0 (fun k => T k = (3, 0)) v zs → Kd.R (Kd.int .i64) 3 w2 0 (fun k => retag T w v1 (8, x) k = (3, 0)) v zs) := by
  have hv := (h.grp x).1
  have hs2 := Nat.le_trans hg.size hg2.size
  have hm : ∀ k, k < w.heap.size → ¬ (T k = (7, 0) ∨ T k = (8, x)) → w2.heap[k]? = w.heap[k]? := fun k hk hn =>
    (hg2.block k (Nat.lt_of_lt_of_le hk hg.size) (fun e => hn (.inl (by injection e with e; rw [e]; exact h.tW)))).trans (hg.block k hk (fun e => hn (.inr (hv k e.symm))))
  have hT : ∀ k, k < w.heap.size → retag T w v1 (8, x) k = T k := retag_old
  obtain ⟨k1, k2, k3, k4, k5, k6, k7, k8, k9, k10, k11⟩ := h.kept (S := fun t => t = (7, 0) ∨ t = (8, x)) hm hT
  have no : ∀ {a b : Int}, a ≠ 7 → a ≠ 8 → ¬ (((a, b) : Int × Int) = (7, 0) ∨ ((a, b) : Int × Int) = (8, x)) := fun h1 h4 e => e.elim (fun e => h1 (congrArg Prod.fst e)) (fun e => h4 (congrArg Prod.fst e))
  have hR1 := R_retag (W := w) hR (fun k hk hlt => hk.resolve_right (by omega))
  have hlw : p.bw < w.heap.size := h.wt.lt
  have hR2 : Kd.R (Kd.int .i64) 3 w2 0 (fun k => retag T w v1 (8, x) k = (8, x)) v1 ys := Kd.R_grown hR1 hg2 (fun k hk e => by
    injection e with e
    rw [e, retag_old _ hlw, h.tW] at hk
    exact absurd (congrArg Prod.fst hk) (show (7 : Int) ≠ 8 by decide))
  refine ⟨{ fresh := fun k hk => ?_, blk := k1 (no (by decide) (by decide)), tB := k2, cls := k3 (no (by decide) (by decide)), len := h.len, rows := k4 (no (by decide) (by decide)), tr := k5 (no (by decide) (by decide)), st := k6 (no (by decide) (by decide)), ms := k7 (no (by decide) (by decide)), tM := k8, mst := h.mst, wt := hM, tW := k10, grp := fun y => ?_, cov := ?_, wsz := fun y => ?_ }, ⟨hg2.os.trans hg.os, hg2.tape.trans hg.tape, hg2.output.trans hg.output, hs2, fun k hk => ⟨hT k hk, fun e => hm k hk (by rw [e]; exact no (by decide) (by decide))⟩⟩, fun hz => R_tag hz (fun k hk e => hm k hk (by rw [e]; exact no (by decide) (by decide))) hT⟩
  · unfold retag
    rw [if_neg, h.fresh k (by omega)]
    rintro ⟨_, e⟩
    obtain ⟨inner, ho⟩ := Kd.R_own hR2
    have := own_lt ho k e
    omega
  · show Kd.R (Kd.int .i64) 3 w2 0 (fun k => retag T w v1 (8, x) k = (8, y)) ((setI p.fw x (some v1) y).getD (.slice none 0 0)) (if y = x then ys else E.wt y)
    unfold setI
    by_cases e : y = x
    · subst e
      rw [if_pos rfl, if_pos rfl]
      exact hR2
    · rw [if_neg e, if_neg e]
      exact k11 y (fun h => h.elim (fun h => absurd (congrArg Prod.fst h) (show (8 : Int) ≠ 7 by decide)) (fun h => e (congrArg Prod.snd h)))
  · obtain ⟨L, hL, hl⟩ := h.cov
    refine ⟨x :: L, fun y hy => ?_, by simp; omega⟩
    have hy : (setI p.fw x (some v1) y).isSome = true := hy
    unfold setI at hy
    by_cases e : y = x
    · rw [e]; simp
    · rw [if_neg e] at hy
      exact List.mem_cons_of_mem _ (hL y hy)
  · show (if y = x then ys else E.wt y).length ≤ E.ws + 1
    split
    · exact hys
    · have := h.wsz y; omega
theorem EngIn.newrow (h : EngIn w B T E p) (hb : Below w.heap.size w w1) {ok : Nat → Prop} {v : Value} {c : List Int} (hR : Kd.R (Kd.int .i64) 3 w1 w.heap.size ok v c) :
    EngIn w1 B (retag T w v (3, 0)) E p ∧ Moved T (retag T w v (3, 0)) w w1 ∧ Kd.R (Kd.int .i64) 3 w1 0 (fun k => retag T w v (3, 0) k = (3, 0)) v c := by
  have hT : ∀ k, k < w.heap.size → retag T w v (3, 0) k = T k := retag_old
  obtain ⟨k1, k2, k3, k4, k5, k6, k7, k8, k9, k10, k11⟩ := h.kept (S := fun _ => False) (fun k hk _ => hb.block k hk) hT
  have no : ¬ False := id
  obtain ⟨inner, ho⟩ := Kd.R_own hR
  refine ⟨{ fresh := fun k hk => ?_, blk := k1 no, tB := k2, cls := k3 no, len := h.len, rows := k4 no, tr := k5 no, st := k6 no, ms := k7 no, tM := k8, mst := h.mst, wt := k9 no, tW := k10, grp := fun x => k11 x no, cov := h.cov, wsz := h.wsz }, ⟨hb.os, hb.tape, hb.output, hb.size, fun k hk => ⟨hT k hk, fun _ => hb.block k hk⟩⟩, ?_⟩
  · unfold retag
    rw [if_neg, h.fresh k (Nat.le_trans hb.size hk)]
    rintro ⟨_, e⟩
    have := own_lt ho k e
    omega
  · refine Kd.R_of_own (Kd.own_of_R (Kd.R_lower hR (Nat.zero_le _))) (fun k hk => ?_)
    unfold retag
    exact if_pos ⟨own_base ho k hk, hk⟩
end
section
variable {P : Program} {ops : Array Oper} {o : Oper} {a : Act} {Q : Exit → Act → World → Prop} {K : Act → World → Prop} {W : World}
theorem step_store_I (hw : Region.wanted o (yielded ops a.tmps) = true) (m x v : Operand) (t : TypeId) (hop : o.op = Op.mapUpdate t m x v) (k e : TypeId) (hk : P.underlying k = some (.int .i64)) (ht : P.underlying t = some (.map k e)) (b : Nat) (f : Int → Option Value)
    (hm : a.eval m = .map (some b)) (h : MapI P k W b f) (y : Int) (val : Value) (hx : a.eval x = .int .i64 y) (hv : a.eval v = val) (hy : (Lit.int .i64 y).wf = true) (L : List Int) (hL : ∀ x, (f x).isSome = true → x ∈ L) (hn : L.length < 4611686018427387904)
    (hK : ∀ w', MapI P k w' b (setI f y (some val)) → W.grownBy w' (some b) → K (a.put o.dst undef) w') :
    if Region.wanted o (yielded ops a.tmps) = true then Oper.wp P o a W K Q else K (a.put o.dst undef) W := by
  rw [if_pos hw]
  obtain ⟨w', hrun, r1, r2⟩ := h.store hk ht hy val L hL hn
  unfold Oper.wp
  simp [execOp, hop, hm, hx, hv, hrun, Result.andThen]
  exact hK w' r1 r2
end
theorem EngIn.after {w w1 : World} {B : Nat} {T : Tag} {E : Eng} {p : EngP} (h : EngIn w B T E p) {v : Value} {t : Int × Int} (hv : ∀ k, v.ownBlock = some k → T k = t) (hne : t ≠ (1, 0)) (hg : w.grownBy w1 v.ownBlock) (i : Nat) : w1.cell? ⟨B, i, none⟩ = (EngCells E p)[i]? ∧ w1.frozen? ⟨B, i, none⟩ = false := by
  have hb := blk_grown h.blk hg (fun e => hne ((hv B e.symm).symm.trans h.tB))
  exact ⟨blk_cell hb i, blk_frozen hb i⟩
theorem zero_rowL (W : World) : (zeroValue 37).run Try.prog W = .ok (.slice none 0 0) W := by kernel_rfl
abbrev put4 (w : World) (g : Nat) (v0 v1 v2 v3 : Value) : World := (((w.setCell ⟨g, 0, none⟩ v0).setCell ⟨g, 1, none⟩ v1).setCell ⟨g, 2, none⟩ v2).setCell ⟨g, 3, none⟩ v3
section
variable {w : World} {g : Nat} {a0 a1 a2 a3 : Value} {t : TypeId}
theorem put4_facts (hx : w.heap[g]? = some (.cells #[a0, a1, a2, a3] t (0, 0))) (v0 v1 v2 v3 : Value) :
    (w.cell? ⟨g, 0, none⟩ = some a0 ∧ w.frozen? ⟨g, 0, none⟩ = false) ∧ ((w.setCell ⟨g, 0, none⟩ v0).cell? ⟨g, 1, none⟩ = some a1 ∧ (w.setCell ⟨g, 0, none⟩ v0).frozen? ⟨g, 1, none⟩ = false) ∧
      (((w.setCell ⟨g, 0, none⟩ v0).setCell ⟨g, 1, none⟩ v1).cell? ⟨g, 2, none⟩ = some a2 ∧ ((w.setCell ⟨g, 0, none⟩ v0).setCell ⟨g, 1, none⟩ v1).frozen? ⟨g, 2, none⟩ = false) ∧
      ((((w.setCell ⟨g, 0, none⟩ v0).setCell ⟨g, 1, none⟩ v1).setCell ⟨g, 2, none⟩ v2).cell? ⟨g, 3, none⟩ = some a3 ∧ (((w.setCell ⟨g, 0, none⟩ v0).setCell ⟨g, 1, none⟩ v1).setCell ⟨g, 2, none⟩ v2).frozen? ⟨g, 3, none⟩ = false) ∧
      (put4 w g v0 v1 v2 v3).heap[g]? = some (.cells #[v0, v1, v2, v3] t (0, 0)) := by
  have h1 := blk_put (cs' := #[v0, a1, a2, a3]) hx 0 v0 rfl
  have h2 := blk_put (cs' := #[v0, v1, a2, a3]) h1 1 v1 rfl
  have h3 := blk_put (cs' := #[v0, v1, v2, a3]) h2 2 v2 rfl
  have h4 := blk_put (cs' := #[v0, v1, v2, v3]) h3 3 v3 rfl
  exact ⟨⟨blk_cell hx 0, blk_frozen hx 0⟩, ⟨blk_cell h1 1, blk_frozen h1 1⟩, ⟨blk_cell h2 2, blk_frozen h2 2⟩, ⟨blk_cell h3 3, blk_frozen h3 3⟩, h4⟩
theorem put4_far (v0 v1 v2 v3 : Value) (k : Nat) (hk : k ≠ g) : (put4 w g v0 v1 v2 v3).heap[k]? = w.heap[k]? :=
  (Below.heap_setCell _ _ v3 k hk).trans ((Below.heap_setCell _ _ v2 k hk).trans ((Below.heap_setCell _ _ v1 k hk).trans (Below.heap_setCell _ _ v0 k hk)))
theorem put4_below {w0 : World} (h : Below w0.heap.size w0 w) (hg : w0.heap.size ≤ g) (v0 v1 v2 v3 : Value) : Below w0.heap.size w0 (put4 w g v0 v1 v2 v3) := (((h.setCell hg _).setCell hg _).setCell hg _).setCell hg _
theorem put4_size (v0 v1 v2 v3 : Value) : (put4 w g v0 v1 v2 v3).heap.size = w.heap.size := by simp
end
theorem results_c3 {P : Program} {fn : Func} {p u u2 : Tmp} {ty : TypeId} (h : fn.results = #[.cell p ty, .tmp u, .tmp u2]) (tmps : Array Value) (w : World) (g : Nat) (t : TypeId) (cs : Array Value) (fr : Nat × Nat) (d : TypeDesc)
    (hp : tmps.getD p undef = .pointer (some ⟨g, 0, none⟩)) (hg : w.heap[g]? = some (.cells cs t fr))
    (hu : P.underlying ty = some d) (hd : (match d with | .struct _ | .array _ _ => true | _ => false) = true) (hi : (P.info? ty).map (·.size) = some cs.size) :
    (results fn tmps).run P w = .ok (.tuple #[.agg cs, tmps.getD u undef, tmps.getD u2 undef]) w := by
  have hp' : tmps[p]?.getD undef = .pointer (some ⟨g, 0, none⟩) := by simpa using hp
  simp [results, h, hp', asAddr, run_loadVar_row w g t ty cs fr d hg hu hd hi]
mutual
def sequiturlaw20_Few.j0 : Nat → List (S39) → Bool → Int → List (List Int) → Option (Bool)
  | 0, _, _, _, _ => none
  | k + 1, x1, x22, x102000, x102001 => if x22 = true then (some false) else (sequiturlaw20_Few.l0 k x1 x102001 (x102001.length : Int) 0)
def sequiturlaw20_Few.l0 : Nat → List (S39) → List (List Int) → Int → Int → Option (Bool)
  | 0, _, _, _, _ => none
  | k + 1, x1, x24, x25, x26 => if x26 < x25 then (if 0 ≤ x26 then (if x26 < (x24.length : Int) then (if ((rd_L3 x24 x26).length : Int) > 70 then (some false) else (sequiturlaw20_Few.l0 k x1 x24 x25 (wrap64 (x26 + 1)))) else (none)) else (none)) else (sequiturlaw20_Few.l1 k x1 (x1.length : Int) 0)
def sequiturlaw20_Few.l1 : Nat → List (S39) → Int → Int → Option (Bool)
  | 0, _, _, _ => none
  | k + 1, x34, x35, x36 => if x36 < x35 then (if 0 ≤ x36 then (if x36 < (x34.length : Int) then (if (((rd_T39 x34 x36).f2).length : Int) > 70 then (some false) else (sequiturlaw20_Few.l1 k x34 x35 (wrap64 (x36 + 1)))) else (none)) else (none)) else (some true)
end
def sequiturlaw20_Few.f (k : Nat) (a0_0 : Int) (l0_1 : List (List Int)) (l1 : List (S39)) : Option (Bool) := if a0_0 > 40 then (sequiturlaw20_Few.j0 k l1 true a0_0 l0_1) else (if (l0_1.length : Int) > 60 then (sequiturlaw20_Few.j0 k l1 true a0_0 l0_1) else (sequiturlaw20_Few.j0 k l1 (decide ((l1.length : Int) > 40)) a0_0 l0_1))
set_option maxHeartbeats 8000000 in
set_option maxRecDepth 100000 in
theorem sequiturlaw20_Few.calls (k : Nat) (a0_0 : Int) (A0_1 : Option Addr) (c0_1 : Nat) (l0_1 : List (List Int)) (A1 : Option Addr) (c1 : Nat) (l1 : List (S39)) (r : Bool) (w : World) (hr0_1 : Kd.C (Kd.slice 3 (Kd.int .i64)) w A0_1 l0_1.length l0_1) (hc0_1 : l0_1.length ≤ c0_1) (hr1 : Kd.C k39 w A1 l1.length l1) (hc1 : l1.length ≤ c1) (h : sequiturlaw20_Few.f k a0_0 l0_1 l1 = some r) :
    Calls Try.prog 8 #[.agg #[.int .i64 a0_0, .slice A0_1 l0_1.length c0_1], .slice A1 l1.length c1] w fun e w' => e = .returned (.bool r) ∧ Below w.heap.size w w' := by
  have hu24 := Try.underlying24
  have hu39 := Try.underlying39
  have HR0_1 := K0 hr0_1; have HC0_1 := K0 hc0_1; clear hr0_1 hc0_1; have HR1 := K0 hr1; have HC1 := K0 hc1; clear hr1 hc1
  have HB := K0 (Below.refl w.heap.size w)
  have H : (if a0_0 > 40 then (sequiturlaw20_Few.j0 k l1 true a0_0 l0_1) else (if (l0_1.length : Int) > 60 then (sequiturlaw20_Few.j0 k l1 true a0_0 l0_1) else (sequiturlaw20_Few.j0 k l1 (decide ((l1.length : Int) > 40)) a0_0 l0_1))) = some r := h
  clear h; have HC3 := K0 H; clear H
  go_enter Try.func8, Try.ntmps8
  go_upto_region 1 with (first | ((with_reducible refine gate_dst (N := 2) rfl ?_); (try (refine gate_guard (by rfl) ?_; dsimp only)); refine box_event ?hg (N := 2) ?hd (cs := #[.int .i64 a0_0, .slice A0_1 l0_1.length c0_1]) (t := 24) ?hr ?_; (case hd => rfl); (case hg => rfl); (case hr => first | (go_simp; done) | (go_simp; rfl)); intro gb101 hg w4 hbox hb; have n0_ := K0 (below_step (by repeat (first | (with_reducible first | exact HB.out | apply below_alloc | apply pw_below_drewN | apply below_drew1) | exact HB.out)) hb); have n1_ := K0 (hbox); have n2_ := K0 ((by rw [hg]; exact (below_size (by repeat (first | (with_reducible first | exact HB.out | apply below_alloc | apply pw_below_drewN | apply below_drew1) | exact HB.out))) : w.heap.size ≤ gb101)); have n3_ := K0 ((by rw [hg]; exact (below_size (by repeat (first | (with_reducible first | exact HB.out | apply below_alloc | apply pw_below_drewN | apply below_drew1) | exact HB.out))) : w.heap.size ≤ gb101)); clear HB; have HB := n0_; have BK101 := n1_; have GW101 := n2_; have GE101 := n3_; clear n0_ n1_ n2_ n3_; clear hb hbox hg))
  (try simp only [Act.put, List.setIfInBounds_toArray, List.set_cons_zero, List.set_cons_succ])
  go_cut [22] (fun v22 wc => ∃ (kq : Nat) (x22_2 : Bool), v22 = .bool x22_2 ∧ Aside0 (sequiturlaw20_Few.j0 kq l1 x22_2 a0_0 l0_1 = some r) ∧ Aside0 (kq ≤ k) ∧ Aside0 (wc.heap[gb101]? = some (.cells #[.int .i64 a0_0, (.slice A0_1 l0_1.length c0_1)] 24 (0, 0))) ∧ Aside0 (Below w.heap.size w wc))
  case first =>
    have H := HC3.out
    clear HC3
    by_cases c5 : a0_0 > 40
    case pos =>
      rw [if_pos c5] at H
      have c5b0 : decide (40 < a0_0) = true := decide_eq_true c5
      clear c5
      (first | rw [c5b0] | (simp only [i64_w, i32_w]; rw [c5b0]) | skip)
      as_aux_lemma =>
        have H' := K0 H
        clear H
        have hcz6_0 : w4.cell? ⟨gb101, 0, none⟩ = some (.int .i64 a0_0) := (blk_cell BK101.out 0).trans rfl
        have hcz6_1 : w4.cell? ⟨gb101, 1, none⟩ = some (.slice A0_1 l0_1.length c0_1) := (blk_cell BK101.out 1).trans rfl
        have hfz6_0 := blk_frozen BK101.out 0; have hfz6_1 := blk_frozen BK101.out 1
        go_wp2
        go_meet
        case rel => exact ⟨_, (true), (by first | rfl | (simp; done) | (simp [*]; done)), H', ⟨by first | omega | exact Nat.le_refl _⟩, ⟨by (with_reducible repeat (first | refine blk_drewN ?_ _ | refine blk_drew ?_ | refine blk_alloc ?_ _)); exact BK101.out⟩, ⟨by repeat (first | (with_reducible first | exact HB.out | apply below_alloc | apply pw_below_drewN | apply below_drew1 | refine below_set ?_ GE101.out) | exact HB.out)⟩⟩
    rw [if_neg c5] at H
    have c5b0 : decide (40 < a0_0) = false := decide_eq_false c5
    clear c5
    (first | rw [c5b0] | (simp only [i64_w, i32_w]; rw [c5b0]) | skip)
    by_cases c7 : (l0_1.length : Int) > 60
    case pos =>
      rw [if_pos c7] at H
      have c7b0 : decide (60 < (l0_1.length : Int)) = true := decide_eq_true c7
      have c7b1 : decide (60 < l0_1.length) = true := decide_eq_true (by omega)
      clear c7
      as_aux_lemma =>
        have H' := K0 H
        clear H
        have hcz8_0 : w4.cell? ⟨gb101, 0, none⟩ = some (.int .i64 a0_0) := (blk_cell BK101.out 0).trans rfl
        have hcz8_1 : w4.cell? ⟨gb101, 1, none⟩ = some (.slice A0_1 l0_1.length c0_1) := (blk_cell BK101.out 1).trans rfl
        have hfz8_0 := blk_frozen BK101.out 0; have hfz8_1 := blk_frozen BK101.out 1
        go_wp2
        go_meet
        case rel => exact ⟨_, (true), (by first | rfl | (simp; done) | (simp [*]; done)), H', ⟨by first | omega | exact Nat.le_refl _⟩, ⟨by (with_reducible repeat (first | refine blk_drewN ?_ _ | refine blk_drew ?_ | refine blk_alloc ?_ _)); exact BK101.out⟩, ⟨by repeat (first | (with_reducible first | exact HB.out | apply below_alloc | apply pw_below_drewN | apply below_drew1 | refine below_set ?_ GE101.out) | exact HB.out)⟩⟩
    rw [if_neg c7] at H
    have c7b0 : decide (60 < (l0_1.length : Int)) = false := decide_eq_false c7
    have c7b1 : decide (60 < l0_1.length) = false := decide_eq_false (by omega)
    clear c7
    as_aux_lemma =>
      have H' := K0 H
      clear H
      have hcz9_0 : w4.cell? ⟨gb101, 0, none⟩ = some (.int .i64 a0_0) := (blk_cell BK101.out 0).trans rfl
      have hcz9_1 : w4.cell? ⟨gb101, 1, none⟩ = some (.slice A0_1 l0_1.length c0_1) := (blk_cell BK101.out 1).trans rfl
      have hfz9_0 := blk_frozen BK101.out 0; have hfz9_1 := blk_frozen BK101.out 1
      go_wp2
      go_meet
      case rel => exact ⟨_, (decide ((l1.length : Int) > 40)), (by first | rfl | (simp; done) | (simp [*]; done)), H', ⟨by first | omega | exact Nat.le_refl _⟩, ⟨by (with_reducible repeat (first | refine blk_drewN ?_ _ | refine blk_drew ?_ | refine blk_alloc ?_ _)); exact BK101.out⟩, ⟨by repeat (first | (with_reducible first | exact HB.out | apply below_alloc | apply pw_below_drewN | apply below_drew1 | refine below_set ?_ GE101.out) | exact HB.out)⟩⟩
  case rest =>
    clear HC3; try clear c1; try clear p2; try clear c5; try clear c5b0; try clear c7; try clear c7b0; try clear c7b1; try clear c8; try clear hcz6_0; try clear hcz6_1; try clear hcz8_0; try clear hcz8_1; try clear hcz9_0; try clear hcz9_1; try clear hfz6_0; try clear hfz6_1; try clear hfz8_0; try clear hfz8_1; try clear hfz9_0; try clear hfz9_1
    obtain ⟨kq, x22_2, rfl, HA, HJ2, BK101, HB⟩ := hcut
    cases kq with
    | zero => exact absurd HA.out (by simp [sequiturlaw20_Few.j0])
    | succ kj2 =>
      have H := HA.out
      clear HA
      simp only [sequiturlaw20_Few.j0] at H
      by_cases c10 : x22_2 = true
      case pos =>
        subst c10
        have H1 : (some false) = some r := by rw [if_pos rfl] at H; exact H
        clear H
        have H := H1
        clear H1
        as_aux_lemma =>
          obtain rfl := Option.some.inj H
          go_wp2
          go_ret
          exact ⟨by first | rfl | (simp [errW_none, errW_some] <;> rfl) | (simp [*, errW_none, errW_some] <;> rfl), by repeat (first | (with_reducible first | exact HB.out | apply below_alloc | apply pw_below_drewN | apply below_drew1 | refine below_set ?_ GE101.out) | exact HB.out)⟩
      replace c10 := Bool.eq_false_iff.mpr c10
      subst c10
      have H1 : (sequiturlaw20_Few.l0 kj2 l1 l0_1 (l0_1.length : Int) 0) = some r := by rw [if_neg (show ¬ (false = true) by decide)] at H; exact H
      clear H
      have H := H1
      clear H1
      have H' := K0 H
      clear H
      have hcz11_0 : wc.cell? ⟨gb101, 0, none⟩ = some (.int .i64 a0_0) := (blk_cell BK101.out 0).trans rfl
      have hcz11_1 : wc.cell? ⟨gb101, 1, none⟩ = some (.slice A0_1 l0_1.length c0_1) := (blk_cell BK101.out 1).trans rfl
      have hfz11_0 := blk_frozen BK101.out 0; have hfz11_1 := blk_frozen BK101.out 1
      go_wp2
      go_loopg [26] kj2 (fun kq v26 w' => ∃ (x26_2 : Int), v26 = .int .i64 x26_2 ∧ Aside0 (sequiturlaw20_Few.l0 kq l1 l0_1 (l0_1.length : Int) x26_2 = some r) ∧ Aside0 (kq ≤ kj2) ∧ Aside0 (w'.heap[gb101]? = some (.cells #[.int .i64 a0_0, (.slice A0_1 l0_1.length c0_1)] 24 (0, 0))) ∧ Aside0 (Below w.heap.size w w'))
      case atStart => exact ⟨(0), (by first | rfl | (simp; done) | (simp [*]; done)), H', ⟨Nat.le_refl _⟩, ⟨by (with_reducible repeat (first | refine blk_drewN ?_ _ | refine blk_drew ?_ | refine blk_alloc ?_ _)); exact BK101.out⟩, ⟨by repeat (first | (with_reducible first | exact HB.out | apply below_alloc | apply pw_below_drewN | apply below_drew1 | refine below_set ?_ GE101.out) | exact HB.out)⟩⟩
      case round =>
        clear H'; try clear c1; try clear p2; try clear c5; try clear c5b0; try clear c7; try clear c7b0; try clear c7b1; try clear c8; try clear c10; try clear hcz11_0; try clear hcz11_1; try clear hcz6_0; try clear hcz6_1; try clear hcz8_0; try clear hcz8_1; try clear hcz9_0; try clear hcz9_1; try clear hfz11_0; try clear hfz11_1; try clear hfz6_0; try clear hfz6_1; try clear hfz8_0; try clear hfz8_1; try clear hfz9_0; try clear hfz9_1; try clear p2
        obtain ⟨x26_2, rfl, HA, HK2, BK101, HB⟩ := hrel
        cases gk with
        | zero => exact absurd HA.out (by simp [sequiturlaw20_Few.l0])
        | succ k2 =>
          have H := HA.out
          clear HA
          simp only [sequiturlaw20_Few.l0] at H
          by_cases c12 : x26_2 < (l0_1.length : Int)
          case pos =>
            rw [if_pos c12] at H
            have c12b0 : decide (x26_2 < (l0_1.length : Int)) = true := decide_eq_true c12
            clear c12
            by_cases c13 : 0 ≤ x26_2
            case neg =>
              rw [if_neg c13] at H
              exact absurd H (by simp)
            rw [if_pos c13] at H
            have c13b0 : decide (0 ≤ x26_2) = true := decide_eq_true c13
            clear c13
            by_cases c14 : x26_2 < (l0_1.length : Int)
            case neg =>
              rw [if_neg c14] at H
              exact absurd H (by simp)
            rw [if_pos c14] at H
            have c14b0 : decide (x26_2 < (l0_1.length : Int)) = true := decide_eq_true c14
            clear c14
            by_cases c15 : ((rd_L3 l0_1 x26_2).length : Int) > 70
            case pos =>
              rw [if_pos c15] at H
              have c15b0 : decide (70 < ((rd_L3 l0_1 x26_2).length : Int)) = true := decide_eq_true c15
              have c15b1 : decide (70 < (rd_L3 l0_1 x26_2).length) = true := decide_eq_true (by omega)
              clear c15
              as_aux_lemma =>
                obtain rfl := Option.some.inj H
                have p102 : 0 ≤ (x26_2 : Int) := of_decide_eq_true (by first | (with_reducible assumption) | assumption)
                have q102 : x26_2 < (l0_1.length : Int) := of_decide_eq_true (by first | (with_reducible assumption) | assumption)
                obtain ⟨ad102, A102_0, c102_0, e102, hx102_0, hl102_0, hi102_0⟩ := at_L3 HR0_1.out x26_2 p102 q102
                cases e102
                replace hx102_0 := (HB.out.cell (World.block_lt_of_cell? w _ hx102_0)).trans hx102_0
                have HR102_0 := K0 hi102_0; have HC102_0 := K0 hl102_0; clear hi102_0 hl102_0; replace p102 := eq_true p102; replace q102 := eq_true q102
                go_wp2
                go_ret
                exact ⟨by first | rfl | (simp [errW_none, errW_some] <;> rfl) | (simp [*, errW_none, errW_some] <;> rfl), by repeat (first | (with_reducible first | exact HB.out | apply below_alloc | apply pw_below_drewN | apply below_drew1 | refine below_set ?_ GE101.out) | exact HB.out)⟩
            rw [if_neg c15] at H
            have c15b0 : decide (70 < ((rd_L3 l0_1 x26_2).length : Int)) = false := decide_eq_false c15
            have c15b1 : decide (70 < (rd_L3 l0_1 x26_2).length) = false := decide_eq_false (by omega)
            clear c15
            as_aux_lemma =>
              have H' := K0 H
              clear H
              have p102 : 0 ≤ (x26_2 : Int) := of_decide_eq_true (by first | (with_reducible assumption) | assumption)
              have q102 : x26_2 < (l0_1.length : Int) := of_decide_eq_true (by first | (with_reducible assumption) | assumption)
              obtain ⟨ad102, A102_0, c102_0, e102, hx102_0, hl102_0, hi102_0⟩ := at_L3 HR0_1.out x26_2 p102 q102
              cases e102
              replace hx102_0 := (HB.out.cell (World.block_lt_of_cell? w _ hx102_0)).trans hx102_0
              have HR102_0 := K0 hi102_0; have HC102_0 := K0 hl102_0; clear hi102_0 hl102_0; replace p102 := eq_true p102; replace q102 := eq_true q102
              go_wp2
              go_roundg k2
              case measure => have := HJ2.out; have := HK2.out; omega
              case rel => exact ⟨(wrap64 (x26_2 + 1)), (by first | rfl | (simp; done) | (simp [*]; done)), H', ⟨by have := HJ2.out; have := HK2.out; omega⟩, ⟨by (with_reducible repeat (first | refine blk_drewN ?_ _ | refine blk_drew ?_ | refine blk_alloc ?_ _)); exact BK101.out⟩, ⟨by repeat (first | (with_reducible first | exact HB.out | apply below_alloc | apply pw_below_drewN | apply below_drew1 | refine below_set ?_ GE101.out) | exact HB.out)⟩⟩
          rw [if_neg c12] at H
          have c12b0 : decide (x26_2 < (l0_1.length : Int)) = false := decide_eq_false c12
          clear c12
          have H' := K0 H
          clear H
          go_wp2
          go_loopg [36] k2 (fun kq v36 w' => ∃ (x36_3 : Int), v36 = .int .i64 x36_3 ∧ Aside0 (sequiturlaw20_Few.l1 kq l1 (l1.length : Int) x36_3 = some r) ∧ Aside0 (kq ≤ k2) ∧ Aside0 (w'.heap[gb101]? = some (.cells #[.int .i64 a0_0, (.slice A0_1 l0_1.length c0_1)] 24 (0, 0))) ∧ Aside0 (Below w.heap.size w w'))
          case atStart => exact ⟨(0), (by first | rfl | (simp; done) | (simp [*]; done)), H', ⟨Nat.le_refl _⟩, ⟨by (with_reducible repeat (first | refine blk_drewN ?_ _ | refine blk_drew ?_ | refine blk_alloc ?_ _)); exact BK101.out⟩, ⟨by repeat (first | (with_reducible first | exact HB.out | apply below_alloc | apply pw_below_drewN | apply below_drew1 | refine below_set ?_ GE101.out) | exact HB.out)⟩⟩
          case round =>
            clear H'; try clear c1; try clear p1; try clear q1; try clear hx1; try clear p2; try clear c5; try clear c5b0; try clear p6; try clear c7; try clear c7b0; try clear c7b1; try clear c8; try clear c10; try clear p10; try clear q10; try clear hx10; try clear c12; try clear c12b0; try clear c13; try clear c13b0; try clear c14; try clear c14b0; try clear c15; try clear c15b0; try clear c15b1; try clear hcz11_0; try clear hcz11_1; try clear hcz6_0; try clear hcz6_1; try clear hcz8_0; try clear hcz8_1; try clear hcz9_0; try clear hcz9_1; try clear hfz11_0; try clear hfz11_1; try clear hfz6_0; try clear hfz6_1; try clear hfz8_0; try clear hfz8_1; try clear hfz9_0; try clear hfz9_1; try clear hx102_0; try clear p102; try clear p2; try clear q102
            obtain ⟨x36_3, rfl, HA, HK3, BK101, HB⟩ := hrel
            cases gk with
            | zero => exact absurd HA.out (by simp [sequiturlaw20_Few.l1])
            | succ k3 =>
              have H := HA.out
              clear HA
              simp only [sequiturlaw20_Few.l1] at H
              by_cases c16 : x36_3 < (l1.length : Int)
              case neg =>
                rw [if_neg c16] at H
                have c16b0 : decide (x36_3 < (l1.length : Int)) = false := decide_eq_false c16
                clear c16
                as_aux_lemma =>
                  obtain rfl := Option.some.inj H
                  go_wp2
                  go_ret
                  exact ⟨by first | rfl | (simp [errW_none, errW_some] <;> rfl) | (simp [*, errW_none, errW_some] <;> rfl), by repeat (first | (with_reducible first | exact HB.out | apply below_alloc | apply pw_below_drewN | apply below_drew1 | refine below_set ?_ GE101.out) | exact HB.out)⟩
              rw [if_pos c16] at H
              have c16b0 : decide (x36_3 < (l1.length : Int)) = true := decide_eq_true c16
              clear c16
              by_cases c17 : 0 ≤ x36_3
              case neg =>
                rw [if_neg c17] at H
                exact absurd H (by simp)
              rw [if_pos c17] at H
              have c17b0 : decide (0 ≤ x36_3) = true := decide_eq_true c17
              clear c17
              by_cases c18 : x36_3 < (l1.length : Int)
              case neg =>
                rw [if_neg c18] at H
                exact absurd H (by simp)
              rw [if_pos c18] at H
              have c18b0 : decide (x36_3 < (l1.length : Int)) = true := decide_eq_true c18
              clear c18
              by_cases c19 : (((rd_T39 l1 x36_3).f2).length : Int) > 70
              case pos =>
                rw [if_pos c19] at H
                have c19b0 : decide (70 < (((rd_T39 l1 x36_3).f2).length : Int)) = true := decide_eq_true c19
                have c19b1 : decide (70 < ((rd_T39 l1 x36_3).f2).length) = true := decide_eq_true (by omega)
                clear c19
                as_aux_lemma =>
                  obtain rfl := Option.some.inj H
                  have p103 : 0 ≤ (x36_3 : Int) := of_decide_eq_true (by first | (with_reducible assumption) | assumption)
                  have q103 : x36_3 < (l1.length : Int) := of_decide_eq_true (by first | (with_reducible assumption) | assumption)
                  obtain ⟨ad103, A103_2, c103_2, e103, hx103_0, hx103_1, hx103_2, hl103_2, hi103_2⟩ := at_T39 HR1.out x36_3 p103 q103
                  cases e103
                  replace hx103_0 := (HB.out.cell (World.block_lt_of_cell? w _ hx103_0)).trans hx103_0
                  replace hx103_1 := (HB.out.cell (World.block_lt_of_cell? w _ hx103_1)).trans hx103_1
                  replace hx103_2 := (HB.out.cell (World.block_lt_of_cell? w _ hx103_2)).trans hx103_2
                  have HR103_2 := K0 hi103_2; have HC103_2 := K0 hl103_2; clear hi103_2 hl103_2; replace p103 := eq_true p103; replace q103 := eq_true q103
                  go_wp2_with (first | ((with_reducible refine gate_dst (N := 8) rfl ?_); (try (refine gate_guard (by rfl) ?_; dsimp only)); refine box_event ?hg (N := 8) ?hd (cs := #[.int .i64 0, .int .i64 0, .slice none 0 0]) (t := 39) ?hr ?_; (case hd => rfl); (case hg => rfl); (case hr => first | (go_simp; done) | (go_simp; rfl)); intro gb104 hg w20 hbox hb; have n0_ := K0 (blk_below (g := gb101) (o := .cells #[.int .i64 a0_0, .slice A0_1 l0_1.length c0_1] 24 (0, 0)) (by (with_reducible repeat (first | refine blk_drewN ?_ _ | refine blk_drew ?_ | refine blk_alloc ?_ _)); exact BK101.out) hb); have n1_ := K0 (below_step (by repeat (first | (with_reducible first | exact HB.out | apply below_alloc | apply pw_below_drewN | apply below_drew1 | refine below_set ?_ GE101.out) | exact HB.out)) hb); have n2_ := K0 (hbox); have n3_ := K0 ((by rw [hg]; exact (below_size (by repeat (first | (with_reducible first | exact HB.out | apply below_alloc | apply pw_below_drewN | apply below_drew1 | refine below_set ?_ GE101.out) | exact HB.out))) : w.heap.size ≤ gb104)); have n4_ := K0 ((by rw [hg]; exact (below_size (by repeat (first | (with_reducible first | exact HB.out | apply below_alloc | apply pw_below_drewN | apply below_drew1 | refine below_set ?_ GE101.out) | exact HB.out))) : w.heap.size ≤ gb104)); have n5_ := K0 ((by rw [hg]; exact Nat.ne_of_lt (blk_lt (g := gb101) (o := .cells #[.int .i64 a0_0, .slice A0_1 l0_1.length c0_1] 24 (0, 0)) (by (with_reducible repeat (first | refine blk_drewN ?_ _ | refine blk_drew ?_ | refine blk_alloc ?_ _)); exact BK101.out)) : gb101 ≠ gb104)); have n6_ := K0 ((by rw [hg]; exact Nat.ne_of_gt (blk_lt (g := gb101) (o := .cells #[.int .i64 a0_0, .slice A0_1 l0_1.length c0_1] 24 (0, 0)) (by (with_reducible repeat (first | refine blk_drewN ?_ _ | refine blk_drew ?_ | refine blk_alloc ?_ _)); exact BK101.out)) : gb104 ≠ gb101)); clear BK101; clear HB; have BK101 := n0_; have HB := n1_; have BK104 := n2_; have GW104 := n3_; have GE104 := n4_; have NB101_104 := n5_; have NB104_101 := n6_; clear n0_ n1_ n2_ n3_ n4_ n5_ n6_; clear hb hbox hg; have hnb21 := NB104_101.out; have hnc21 := NB101_104.out; have hcz22_0 : w20.cell? ⟨gb104, 0, none⟩ = some (.int .i64 0) := (blk_cell BK104.out 0).trans rfl; have hcz22_1 : w20.cell? ⟨gb104, 1, none⟩ = some (.int .i64 0) := (blk_cell BK104.out 1).trans rfl; have hcz22_2 : w20.cell? ⟨gb104, 2, none⟩ = some (.slice none 0 0) := (blk_cell BK104.out 2).trans rfl; have hfz22_0 := blk_frozen BK104.out 0; have hfz22_1 := blk_frozen BK104.out 1; have hfz22_2 := blk_frozen BK104.out 2))
                  go_ret
                  exact ⟨by first | rfl | (simp [errW_none, errW_some] <;> rfl) | (simp [*, errW_none, errW_some] <;> rfl), by repeat (first | (with_reducible first | exact HB.out | apply below_alloc | apply pw_below_drewN | apply below_drew1 | refine below_set ?_ GE101.out | refine below_set ?_ GE104.out) | exact HB.out)⟩
              rw [if_neg c19] at H
              have c19b0 : decide (70 < (((rd_T39 l1 x36_3).f2).length : Int)) = false := decide_eq_false c19
              have c19b1 : decide (70 < ((rd_T39 l1 x36_3).f2).length) = false := decide_eq_false (by omega)
              clear c19
              as_aux_lemma =>
                have H' := K0 H
                clear H
                have p103 : 0 ≤ (x36_3 : Int) := of_decide_eq_true (by first | (with_reducible assumption) | assumption)
                have q103 : x36_3 < (l1.length : Int) := of_decide_eq_true (by first | (with_reducible assumption) | assumption)
                obtain ⟨ad103, A103_2, c103_2, e103, hx103_0, hx103_1, hx103_2, hl103_2, hi103_2⟩ := at_T39 HR1.out x36_3 p103 q103
                cases e103
                replace hx103_0 := (HB.out.cell (World.block_lt_of_cell? w _ hx103_0)).trans hx103_0
                replace hx103_1 := (HB.out.cell (World.block_lt_of_cell? w _ hx103_1)).trans hx103_1
                replace hx103_2 := (HB.out.cell (World.block_lt_of_cell? w _ hx103_2)).trans hx103_2
                have HR103_2 := K0 hi103_2; have HC103_2 := K0 hl103_2; clear hi103_2 hl103_2; replace p103 := eq_true p103; replace q103 := eq_true q103
                go_wp2_with (first | ((with_reducible refine gate_dst (N := 8) rfl ?_); (try (refine gate_guard (by rfl) ?_; dsimp only)); refine box_event ?hg (N := 8) ?hd (cs := #[.int .i64 0, .int .i64 0, .slice none 0 0]) (t := 39) ?hr ?_; (case hd => rfl); (case hg => rfl); (case hr => first | (go_simp; done) | (go_simp; rfl)); intro gb104 hg w23 hbox hb; have n0_ := K0 (blk_below (g := gb101) (o := .cells #[.int .i64 a0_0, .slice A0_1 l0_1.length c0_1] 24 (0, 0)) (by (with_reducible repeat (first | refine blk_drewN ?_ _ | refine blk_drew ?_ | refine blk_alloc ?_ _)); exact BK101.out) hb); have n1_ := K0 (below_step (by repeat (first | (with_reducible first | exact HB.out | apply below_alloc | apply pw_below_drewN | apply below_drew1 | refine below_set ?_ GE101.out) | exact HB.out)) hb); have n2_ := K0 (hbox); have n3_ := K0 ((by rw [hg]; exact (below_size (by repeat (first | (with_reducible first | exact HB.out | apply below_alloc | apply pw_below_drewN | apply below_drew1 | refine below_set ?_ GE101.out) | exact HB.out))) : w.heap.size ≤ gb104)); have n4_ := K0 ((by rw [hg]; exact (below_size (by repeat (first | (with_reducible first | exact HB.out | apply below_alloc | apply pw_below_drewN | apply below_drew1 | refine below_set ?_ GE101.out) | exact HB.out))) : w.heap.size ≤ gb104)); have n5_ := K0 ((by rw [hg]; exact Nat.ne_of_lt (blk_lt (g := gb101) (o := .cells #[.int .i64 a0_0, .slice A0_1 l0_1.length c0_1] 24 (0, 0)) (by (with_reducible repeat (first | refine blk_drewN ?_ _ | refine blk_drew ?_ | refine blk_alloc ?_ _)); exact BK101.out)) : gb101 ≠ gb104)); have n6_ := K0 ((by rw [hg]; exact Nat.ne_of_gt (blk_lt (g := gb101) (o := .cells #[.int .i64 a0_0, .slice A0_1 l0_1.length c0_1] 24 (0, 0)) (by (with_reducible repeat (first | refine blk_drewN ?_ _ | refine blk_drew ?_ | refine blk_alloc ?_ _)); exact BK101.out)) : gb104 ≠ gb101)); clear BK101; clear HB; have BK101 := n0_; have HB := n1_; have BK104 := n2_; have GW104 := n3_; have GE104 := n4_; have NB101_104 := n5_; have NB104_101 := n6_; clear n0_ n1_ n2_ n3_ n4_ n5_ n6_; clear hb hbox hg; have hnb24 := NB104_101.out; have hnc24 := NB101_104.out; have hcz25_0 : w23.cell? ⟨gb104, 0, none⟩ = some (.int .i64 0) := (blk_cell BK104.out 0).trans rfl; have hcz25_1 : w23.cell? ⟨gb104, 1, none⟩ = some (.int .i64 0) := (blk_cell BK104.out 1).trans rfl; have hcz25_2 : w23.cell? ⟨gb104, 2, none⟩ = some (.slice none 0 0) := (blk_cell BK104.out 2).trans rfl; have hfz25_0 := blk_frozen BK104.out 0; have hfz25_1 := blk_frozen BK104.out 1; have hfz25_2 := blk_frozen BK104.out 2))
                go_roundg k3
                case measure => have := HJ2.out; have := HK2.out; have := HK3.out; omega
                case rel => exact ⟨(wrap64 (x36_3 + 1)), (by first | rfl | (simp; done) | (simp [*]; done)), H', ⟨by have := HJ2.out; have := HK2.out; have := HK3.out; omega⟩, ⟨by (with_reducible repeat (first | refine blk_drewN ?_ _ | refine blk_drew ?_ | refine blk_alloc ?_ _)); refine blk_far ?_ NB101_104.out _; (with_reducible repeat (first | refine blk_drewN ?_ _ | refine blk_drew ?_ | refine blk_alloc ?_ _)); refine blk_far ?_ NB101_104.out _; (with_reducible repeat (first | refine blk_drewN ?_ _ | refine blk_drew ?_ | refine blk_alloc ?_ _)); refine blk_far ?_ NB101_104.out _; (with_reducible repeat (first | refine blk_drewN ?_ _ | refine blk_drew ?_ | refine blk_alloc ?_ _)); exact BK101.out⟩, ⟨by repeat (first | (with_reducible first | exact HB.out | apply below_alloc | apply pw_below_drewN | apply below_drew1 | refine below_set ?_ GE101.out | refine below_set ?_ GE104.out) | exact HB.out)⟩⟩
def lit_is.f (a0 : Int) : Option (Bool) := if a0 = 0 then (some false) else (some (a0 != (-9223372036854775808)))
set_option maxHeartbeats 8000000 in
set_option maxRecDepth 100000 in
theorem lit_is.calls (a0 : Int) (r : Bool) (w : World) (h : lit_is.f a0 = some r) :
    Calls Try.prog 90 #[.int .i64 a0] w fun e w' => e = .returned (.bool r) ∧ Drawn0 w w' := by
  have H : (if a0 = 0 then (some false) else (some (a0 != (-9223372036854775808)))) = some r := h
  clear h
  by_cases c2 : a0 = 0
  · rw [if_pos c2] at H
    have c2b0 : (a0 == 0) = true := beq_iff_eq.mpr c2
    have c2b1 : (a0 != 0) = false := bne_eq_false_iff_eq.mpr c2
    clear c2
    as_aux_lemma =>
      obtain rfl := Option.some.inj H
      go_enter Try.func90, Try.ntmps90
      go_wp2
      go_ret
      exact ⟨by first | rfl | (simp; done) | (simp [*]; done), by repeat (first | exact Drawn0.refl _ | apply Drawn0.step)⟩
  · rw [if_neg c2] at H
    have c2b0 : (a0 == 0) = false := beq_eq_false_iff_ne.mpr c2
    have c2b1 : (a0 != 0) = true := bne_iff_ne.mpr c2
    as_aux_lemma =>
      obtain rfl := Option.some.inj H
      go_enter Try.func90, Try.ntmps90
      go_wp2
      go_ret
      exact ⟨by first | rfl | (simp; done) | (simp [*]; done), by repeat (first | exact Drawn0.refl _ | apply Drawn0.step)⟩
def lit_variable.f (a0 : Int) : Option (Int) := some (mx a0 (wrap64 (-a0)))
set_option maxHeartbeats 8000000 in
set_option maxRecDepth 100000 in
theorem lit_variable.calls (a0 : Int) (r : Int) (w : World) (h : lit_variable.f a0 = some r) :
    Calls Try.prog 91 #[.int .i64 a0] w fun e w' => e = .returned (.int .i64 r) ∧ Drawn0 w w' := by
  obtain rfl := Option.some.inj h
  clear h
  go_enter Try.func91, Try.ntmps91
  go_wp2
  · have h : a0 < wrap64 (-a0) := by assumption
    rw [show mx a0 (wrap64 (-a0)) = wrap64 (-a0) from if_pos h]
    go_ret
    exact ⟨rfl, Drawn0.refl _⟩
  · have h : wrap64 (-a0) ≤ a0 := by assumption
    rw [show mx a0 (wrap64 (-a0)) = a0 from if_neg (by omega)]
    go_ret
    exact ⟨rfl, Drawn0.refl _⟩
def lit_Right.l0 : Nat → Int → List Int → Int → Int → Option (Int)
  | 0, _, _, _, _ => none
  | k + 1, x1, x10, x11, x12 => if x12 < x11 then (if 0 ≤ x12 then (if x12 < (x10.length : Int) then ((lit_is.f (rd x10 x12)).bind fun t106 => (if t106 = true then ((lit_variable.f (rd x10 x12)).bind fun t107 => (if t107 > x1 then (some 1) else (lit_Right.l0 k x1 x10 x11 (wrap64 (x12 + 1))))) else (some 1))) else (none)) else (none)) else (some 0)
def lit_Right.f (k : Nat) (l0 : List Int) (a1 : Int) : Option (Int) := if (l0.length : Int) > 64 then (some 2) else (lit_Right.l0 k a1 l0 (l0.length : Int) 0)
theorem lit_Right.mono_l : ∀ k, (∀ y0 y1 y2 y3, LeO (lit_Right.l0 k y0 y1 y2 y3) (lit_Right.l0 (k + 1) y0 y1 y2 y3))
  | 0 => fun _ _ _ _ r h => by simp [lit_Right.l0] at h
  | k + 1 => by
    have ih0 := lit_Right.mono_l k
    · intro y0 y1 y2 y3
      unfold lit_Right.l0
      repeat' first
      | (with_reducible exact ih0 _ _ _ _)
      | (with_reducible exact LeO.refl _)
      | (with_reducible exact LeO.none _)
      | (with_reducible refine LeO.ite ?_ ?_)
      | (with_reducible refine LeO.bind ?_ (fun _ => ?_))
      | exact ih0 _ _ _ _
      | exact LeO.none _
      | refine LeO.ite ?_ ?_
      | refine LeO.bind ?_ (fun _ => ?_)
theorem lit_Right.mono : ∀ a0 a1 k, LeO (lit_Right.f k a0 a1) (lit_Right.f (k + 1) a0 a1) := by
  intro a0 a1 k
  have ih0 := lit_Right.mono_l k
  unfold lit_Right.f
  repeat' first
      | (with_reducible exact ih0 _ _ _ _)
      | (with_reducible exact LeO.refl _)
      | (with_reducible exact LeO.none _)
      | (with_reducible refine LeO.ite ?_ ?_)
      | (with_reducible refine LeO.bind ?_ (fun _ => ?_))
      | exact ih0 _ _ _ _
      | exact LeO.none _
      | refine LeO.ite ?_ ?_
      | refine LeO.bind ?_ (fun _ => ?_)
set_option maxHeartbeats 8000000 in
set_option maxRecDepth 100000 in
theorem lit_Right.calls (k : Nat) (A0 : Option Addr) (c0 : Nat) (l0 : List Int) (a1 : Int) (r : Int) (w : World) (hr0 : Kd.C (Kd.int .i64) w A0 l0.length l0) (hc0 : l0.length ≤ c0) (h : lit_Right.f k l0 a1 = some r) :
    Calls Try.prog 69 #[.slice A0 l0.length c0, .int .i64 a1] w fun e w' => e = .returned (.int .i64 r) ∧ Drawn0 w w' := by
  have HR0 := K0 hr0
  have HC0 := K0 hc0
  clear hr0 hc0
  have H : (if (l0.length : Int) > 64 then (some 2) else (lit_Right.l0 k a1 l0 (l0.length : Int) 0)) = some r := h
  clear h
  by_cases c3 : (l0.length : Int) > 64
  · rw [if_pos c3] at H
    have c3b0 : decide (64 < (l0.length : Int)) = true := decide_eq_true c3
    have c3b1 : decide (64 < l0.length) = true := decide_eq_true (by omega)
    clear c3
    as_aux_lemma =>
      obtain rfl := Option.some.inj H
      go_enter Try.func69, Try.ntmps69
      go_wp2
      go_ret
      exact ⟨by first | rfl | (simp; done) | (simp [*]; done), by repeat (first | exact Drawn0.refl _ | apply Drawn0.step)⟩
  · rw [if_neg c3] at H
    have c3b0 : decide (64 < (l0.length : Int)) = false := decide_eq_false c3
    have c3b1 : decide (64 < l0.length) = false := decide_eq_false (by omega)
    clear c3
    have H' := K0 H
    clear H
    go_enter Try.func69, Try.ntmps69
    go_wp2
    go_loopg [12] k (fun kq v12 w' => ∃ (x12_1 : Int), v12 = .int .i64 x12_1 ∧ Aside0 (lit_Right.l0 kq a1 l0 (l0.length : Int) x12_1 = some r) ∧ Aside0 (kq ≤ k) ∧ Drawn0 w w')
    case atStart => exact ⟨(0), (by first | rfl | (simp; done) | (simp [*]; done)), H', ⟨Nat.le_refl _⟩, by repeat (first | exact Drawn0.refl _ | apply Drawn0.step)⟩
    case round =>
      clear H'
      try clear p2
      try clear c3
      try clear c3b0
      try clear c3b1
      obtain ⟨x12_1, rfl, HA, HK1, ⟨m1, rfl⟩⟩ := hrel
      cases gk with
      | zero => exact absurd HA.out (by simp [lit_Right.l0])
      | succ k1 =>
        have H := HA.out
        clear HA
        simp only [lit_Right.l0] at H
        by_cases c4 : x12_1 < (l0.length : Int)
        · rw [if_pos c4] at H
          have c4b0 : decide (x12_1 < (l0.length : Int)) = true := decide_eq_true c4
          clear c4
          by_cases c5 : 0 ≤ x12_1
          · rw [if_pos c5] at H
            have c5b0 : decide (0 ≤ x12_1) = true := decide_eq_true c5
            clear c5
            by_cases c6 : x12_1 < (l0.length : Int)
            · rw [if_pos c6] at H
              have c6b0 : decide (x12_1 < (l0.length : Int)) = true := decide_eq_true c6
              clear c6
              replace H := Option.bind_eq_some_iff.mp H
              obtain ⟨t106, A70, H⟩ := H
              replace H : (if t106 = true then ((lit_variable.f (rd l0 x12_1)).bind fun t107 => (if t107 > a1 then (some 1) else (lit_Right.l0 k1 a1 l0 (l0.length : Int) (wrap64 (x12_1 + 1))))) else (some 1)) = some r := H
              have A7 := K0 A70
              clear A70
              by_cases c8 : t106 = true
              · subst c8
                have H1 : ((lit_variable.f (rd l0 x12_1)).bind fun t107 => (if t107 > a1 then (some 1) else (lit_Right.l0 k1 a1 l0 (l0.length : Int) (wrap64 (x12_1 + 1))))) = some r := by rw [if_pos rfl] at H; exact H
                clear H
                have H := H1
                clear H1
                replace H := Option.bind_eq_some_iff.mp H
                obtain ⟨t107, A90, H⟩ := H
                replace H : (if t107 > a1 then (some 1) else (lit_Right.l0 k1 a1 l0 (l0.length : Int) (wrap64 (x12_1 + 1)))) = some r := H
                have A9 := K0 A90
                clear A90
                by_cases c10 : t107 > a1
                · rw [if_pos c10] at H
                  have c10b0 : decide (a1 < t107) = true := decide_eq_true c10
                  clear c10
                  as_aux_lemma =>
                    obtain rfl := Option.some.inj H
                    have p105 : 0 ≤ (x12_1 : Int) := of_decide_eq_true (by first | (with_reducible assumption) | assumption)
                    have q105 : x12_1 < (l0.length : Int) := of_decide_eq_true (by first | (with_reducible assumption) | assumption)
                    obtain ⟨ad105, e105, hx105_0⟩ := Kd.at_int HR0.out x12_1 p105 q105
                    cases e105
                    replace p105 := eq_true p105
                    replace q105 := eq_true q105
                    go_wp2_with (first | ((with_reducible refine gate_callee (f := 90) rfl ?_); refine goesL_ (some 17) rfl rfl Try.func90 (by kernel_rfl) rfl #[.int .i64 (rd l0 x12_1)] rfl (by (try simp only [List.map_toArray, List.map_cons, List.map_nil]); first | done | rfl | (simp only [List.length_drop, List.length_take]; rfl)) ?_; (with_reducible refine (lit_is.calls (rd l0 x12_1) true _ A7.out).mono ?_); rintro e w' ⟨rfl, ⟨nd, rfl⟩⟩; refine ⟨_, rfl, ?_⟩) | (go_at_call 91; (with_reducible refine (lit_variable.calls (rd l0 x12_1) t107 _ A9.out).mono ?_); rintro e w' ⟨rfl, ⟨nd, rfl⟩⟩))
                    go_ret
                    exact ⟨by first | rfl | (simp; done) | (simp [*]; done), by repeat (first | exact Drawn0.refl _ | apply Drawn0.step)⟩
                · rw [if_neg c10] at H
                  have c10b0 : decide (a1 < t107) = false := decide_eq_false c10
                  clear c10
                  as_aux_lemma =>
                    have H' := K0 H
                    clear H
                    have p105 : 0 ≤ (x12_1 : Int) := of_decide_eq_true (by first | (with_reducible assumption) | assumption)
                    have q105 : x12_1 < (l0.length : Int) := of_decide_eq_true (by first | (with_reducible assumption) | assumption)
                    obtain ⟨ad105, e105, hx105_0⟩ := Kd.at_int HR0.out x12_1 p105 q105
                    cases e105
                    replace p105 := eq_true p105
                    replace q105 := eq_true q105
                    go_wp2_with (first | ((with_reducible refine gate_callee (f := 90) rfl ?_); refine goesL_ (some 17) rfl rfl Try.func90 (by kernel_rfl) rfl #[.int .i64 (rd l0 x12_1)] rfl (by (try simp only [List.map_toArray, List.map_cons, List.map_nil]); first | done | rfl | (simp only [List.length_drop, List.length_take]; rfl)) ?_; (with_reducible refine (lit_is.calls (rd l0 x12_1) true _ A7.out).mono ?_); rintro e w' ⟨rfl, ⟨nd, rfl⟩⟩; refine ⟨_, rfl, ?_⟩) | (go_at_call 91; (with_reducible refine (lit_variable.calls (rd l0 x12_1) t107 _ A9.out).mono ?_); rintro e w' ⟨rfl, ⟨nd, rfl⟩⟩))
                    go_roundg k1
                    case measure => have := HK1.out; omega
                    case rel => exact ⟨(wrap64 (x12_1 + 1)), (by first | rfl | (simp; done) | (simp [*]; done)), H', ⟨by have := HK1.out; omega⟩, by repeat (first | exact Drawn0.refl _ | apply Drawn0.step)⟩
              · replace c8 := Bool.eq_false_iff.mpr c8
                subst c8
                have H1 : (some 1) = some r := by rw [if_neg (show ¬ (false = true) by decide)] at H; exact H
                clear H
                have H := H1
                clear H1
                as_aux_lemma =>
                  obtain rfl := Option.some.inj H
                  have p105 : 0 ≤ (x12_1 : Int) := of_decide_eq_true (by first | (with_reducible assumption) | assumption)
                  have q105 : x12_1 < (l0.length : Int) := of_decide_eq_true (by first | (with_reducible assumption) | assumption)
                  obtain ⟨ad105, e105, hx105_0⟩ := Kd.at_int HR0.out x12_1 p105 q105
                  cases e105
                  replace p105 := eq_true p105
                  replace q105 := eq_true q105
                  go_wp2_with (first | ((with_reducible refine gate_callee (f := 90) rfl ?_); refine goesL_ (some 17) rfl rfl Try.func90 (by kernel_rfl) rfl #[.int .i64 (rd l0 x12_1)] rfl (by (try simp only [List.map_toArray, List.map_cons, List.map_nil]); first | done | rfl | (simp only [List.length_drop, List.length_take]; rfl)) ?_; (with_reducible refine (lit_is.calls (rd l0 x12_1) false _ A7.out).mono ?_); rintro e w' ⟨rfl, ⟨nd, rfl⟩⟩; refine ⟨_, rfl, ?_⟩))
                  go_ret
                  exact ⟨by first | rfl | (simp; done) | (simp [*]; done), by repeat (first | exact Drawn0.refl _ | apply Drawn0.step)⟩
            · rw [if_neg c6] at H
              exact absurd H (by simp)
          · rw [if_neg c5] at H
            exact absurd H (by simp)
        · rw [if_neg c4] at H
          have c4b0 : decide (x12_1 < (l0.length : Int)) = false := decide_eq_false c4
          clear c4
          as_aux_lemma =>
            obtain rfl := Option.some.inj H
            go_wp2
            go_ret
            exact ⟨by first | rfl | (simp; done) | (simp [*]; done), by repeat (first | exact Drawn0.refl _ | apply Drawn0.step)⟩
mutual
def cnf_Right.j0 : Nat → Bool → Int → List (List Int) → Option (Int × Int)
  | 0, _, _, _ => none
  | k + 1, x14, x109000, x109001 => if x14 = true then (some ((-1), 1)) else (if (x109001.length : Int) > 4096 then (some ((-1), 2)) else (cnf_Right.l0 k x109001 (x109001.length : Int) 0 x109000 x109001))
def cnf_Right.l0 : Nat → List (List Int) → Int → Int → Int → List (List Int) → Option (Int × Int)
  | 0, _, _, _, _, _ => none
  | k + 1, x20, x21, x22, x109000, x109001 => if x22 < x21 then (if 0 ≤ x22 then (if x22 < (x20.length : Int) then ((lit_Right.f k (rd_L3 x20 x22) x109000).bind fun t110 => (if t110 = 0 then (cnf_Right.l0 k x20 x21 (wrap64 (x22 + 1)) x109000 x109001) else (some (x22, t110)))) else (none)) else (none)) else (some (0, 0))
end
def cnf_Right.f (k : Nat) (a0_0 : Int) (l0_1 : List (List Int)) : Option (Int × Int) := if a0_0 < 0 then (cnf_Right.j0 k true a0_0 l0_1) else (cnf_Right.j0 k (decide (a0_0 > 1024)) a0_0 l0_1)
theorem cnf_Right.mono_l : ∀ k, (∀ y0 y1 y2, LeO (cnf_Right.j0 k y0 y1 y2) (cnf_Right.j0 (k + 1) y0 y1 y2)) ∧ (∀ y0 y1 y2 y3 y4, LeO (cnf_Right.l0 k y0 y1 y2 y3 y4) (cnf_Right.l0 (k + 1) y0 y1 y2 y3 y4))
  | 0 => ⟨fun _ _ _ r h => by simp [cnf_Right.j0] at h, fun _ _ _ _ _ r h => by simp [cnf_Right.l0] at h⟩
  | k + 1 => by
    obtain ⟨ih0, ih1⟩ := cnf_Right.mono_l k
    refine ⟨?_, ?_⟩
    · intro y0 y1 y2
      unfold cnf_Right.j0
      repeat' first
      | (with_reducible exact ih0 _ _ _)
      | (with_reducible exact ih1 _ _ _ _ _)
      | (with_reducible exact lit_Right.mono _ _ _)
      | (with_reducible exact LeO.refl _)
      | (with_reducible exact LeO.none _)
      | (with_reducible refine LeO.ite ?_ ?_)
      | (with_reducible refine LeO.bind ?_ (fun _ => ?_))
      | exact ih0 _ _ _
      | exact ih1 _ _ _ _ _
      | exact lit_Right.mono _ _ _
      | exact LeO.none _
      | refine LeO.ite ?_ ?_
      | refine LeO.bind ?_ (fun _ => ?_)
    intro y0 y1 y2 y3 y4
    unfold cnf_Right.l0
    repeat' first
    | (with_reducible exact ih0 _ _ _)
    | (with_reducible exact ih1 _ _ _ _ _)
    | (with_reducible exact lit_Right.mono _ _ _)
    | (with_reducible exact LeO.refl _)
    | (with_reducible exact LeO.none _)
    | (with_reducible refine LeO.ite ?_ ?_)
    | (with_reducible refine LeO.bind ?_ (fun _ => ?_))
    | exact ih0 _ _ _
    | exact ih1 _ _ _ _ _
    | exact lit_Right.mono _ _ _
    | exact LeO.none _
    | refine LeO.ite ?_ ?_
    | refine LeO.bind ?_ (fun _ => ?_)
theorem cnf_Right.mono : ∀ a0 a1 k, LeO (cnf_Right.f k a0 a1) (cnf_Right.f (k + 1) a0 a1) := by
  intro a0 a1 k
  obtain ⟨ih0, ih1⟩ := cnf_Right.mono_l k
  unfold cnf_Right.f
  repeat' first
      | (with_reducible exact ih0 _ _ _)
      | (with_reducible exact ih1 _ _ _ _ _)
      | (with_reducible exact lit_Right.mono _ _ _)
      | (with_reducible exact LeO.refl _)
      | (with_reducible exact LeO.none _)
      | (with_reducible refine LeO.ite ?_ ?_)
      | (with_reducible refine LeO.bind ?_ (fun _ => ?_))
      | exact ih0 _ _ _
      | exact ih1 _ _ _ _ _
      | exact lit_Right.mono _ _ _
      | exact LeO.none _
      | refine LeO.ite ?_ ?_
      | refine LeO.bind ?_ (fun _ => ?_)
set_option maxHeartbeats 8000000 in
set_option maxRecDepth 100000 in
theorem cnf_Right.calls (k : Nat) (a0_0 : Int) (A0_1 : Option Addr) (c0_1 : Nat) (l0_1 : List (List Int)) (r1 : Int) (r2 : Int) (w : World) (hr0_1 : Kd.C (Kd.slice 3 (Kd.int .i64)) w A0_1 l0_1.length l0_1) (hc0_1 : l0_1.length ≤ c0_1) (h : cnf_Right.f k a0_0 l0_1 = some (r1, r2)) :
    Calls Try.prog 35 #[.agg #[.int .i64 a0_0, .slice A0_1 l0_1.length c0_1]] w fun e w' => e = .returned (.tuple #[.int .i64 r1, .int .i64 r2]) ∧ Below w.heap.size w w' := by
  have hu24 := Try.underlying24
  have HR0_1 := K0 hr0_1; have HC0_1 := K0 hc0_1; clear hr0_1 hc0_1
  have HB := K0 (Below.refl w.heap.size w)
  have H : (if a0_0 < 0 then (cnf_Right.j0 k true a0_0 l0_1) else (cnf_Right.j0 k (decide (a0_0 > 1024)) a0_0 l0_1)) = some (r1, r2) := h
  clear h; have HC2 := K0 H; clear H
  go_enter Try.func35, Try.ntmps35
  go_upto_region 1 with (first | ((with_reducible refine gate_dst (N := 1) rfl ?_); refine box_event ?hg (N := 1) ?hd (cs := #[.int .i64 a0_0, .slice A0_1 l0_1.length c0_1]) (t := 24) ?hr ?_; (case hd => rfl); (case hg => rfl); (case hr => first | (go_simp; done) | (go_simp; rfl)); intro gb108 hg w3 hbox hb; have n0_ := K0 (below_step (by repeat (first | (with_reducible first | exact HB.out | apply below_alloc | apply pw_below_drewN | apply below_drew1) | exact HB.out)) hb); have n1_ := K0 (hbox); have n2_ := K0 ((by rw [hg]; exact (below_size (by repeat (first | (with_reducible first | exact HB.out | apply below_alloc | apply pw_below_drewN | apply below_drew1) | exact HB.out))) : w.heap.size ≤ gb108)); have n3_ := K0 ((by rw [hg]; exact (below_size (by repeat (first | (with_reducible first | exact HB.out | apply below_alloc | apply pw_below_drewN | apply below_drew1) | exact HB.out))) : w.heap.size ≤ gb108)); clear HB; have HB := n0_; have BK108 := n1_; have GW108 := n2_; have GE108 := n3_; clear n0_ n1_ n2_ n3_; clear hb hbox hg))
  (try simp only [Act.put, List.setIfInBounds_toArray, List.set_cons_zero, List.set_cons_succ])
  go_cut [14] (fun v14 wc => ∃ (kq : Nat) (x14_1 : Bool), v14 = .bool x14_1 ∧ Aside0 (cnf_Right.j0 kq x14_1 a0_0 l0_1 = some (r1, r2)) ∧ Aside0 (kq ≤ k) ∧ Aside0 (wc.heap[gb108]? = some (.cells #[.int .i64 a0_0, (.slice A0_1 l0_1.length c0_1)] 24 (0, 0))) ∧ Aside0 (Below w.heap.size w wc))
  case first =>
    have H := HC2.out
    clear HC2
    by_cases c4 : a0_0 < 0
    case pos =>
      rw [if_pos c4] at H
      have c4b0 : decide (a0_0 < 0) = true := decide_eq_true c4
      clear c4
      (first | rw [c4b0] | (simp only [i64_w, i32_w]; rw [c4b0]) | skip)
      as_aux_lemma =>
        have H' := K0 H
        clear H
        have hcz5_0 : w3.cell? ⟨gb108, 0, none⟩ = some (.int .i64 a0_0) := (blk_cell BK108.out 0).trans rfl
        have hcz5_1 : w3.cell? ⟨gb108, 1, none⟩ = some (.slice A0_1 l0_1.length c0_1) := (blk_cell BK108.out 1).trans rfl
        have hfz5_0 := blk_frozen BK108.out 0; have hfz5_1 := blk_frozen BK108.out 1
        go_wp2
        go_meet
        case rel => exact ⟨_, (true), (by first | rfl | (simp; done) | (simp [*]; done)), H', ⟨by first | omega | exact Nat.le_refl _⟩, ⟨by (with_reducible repeat (first | refine blk_drewN ?_ _ | refine blk_drew ?_ | refine blk_alloc ?_ _)); exact BK108.out⟩, ⟨by repeat (first | (with_reducible first | exact HB.out | apply below_alloc | apply pw_below_drewN | apply below_drew1 | refine below_set ?_ GE108.out) | exact HB.out)⟩⟩
    rw [if_neg c4] at H
    have c4b0 : decide (a0_0 < 0) = false := decide_eq_false c4
    clear c4
    (first | rw [c4b0] | (simp only [i64_w, i32_w]; rw [c4b0]) | skip)
    as_aux_lemma =>
      have H' := K0 H
      clear H
      have hcz6_0 : w3.cell? ⟨gb108, 0, none⟩ = some (.int .i64 a0_0) := (blk_cell BK108.out 0).trans rfl
      have hcz6_1 : w3.cell? ⟨gb108, 1, none⟩ = some (.slice A0_1 l0_1.length c0_1) := (blk_cell BK108.out 1).trans rfl
      have hfz6_0 := blk_frozen BK108.out 0; have hfz6_1 := blk_frozen BK108.out 1
      go_wp2
      go_meet
      case rel => exact ⟨_, (decide (a0_0 > 1024)), (by first | rfl | (simp; done) | (simp [*]; done)), H', ⟨by first | omega | exact Nat.le_refl _⟩, ⟨by (with_reducible repeat (first | refine blk_drewN ?_ _ | refine blk_drew ?_ | refine blk_alloc ?_ _)); exact BK108.out⟩, ⟨by repeat (first | (with_reducible first | exact HB.out | apply below_alloc | apply pw_below_drewN | apply below_drew1 | refine below_set ?_ GE108.out) | exact HB.out)⟩⟩
  case rest =>
    clear HC2; try clear p2; try clear c3; try clear c4; try clear c4b0; try clear hcz5_0; try clear hcz5_1; try clear hcz6_0; try clear hcz6_1; try clear hfz5_0; try clear hfz5_1; try clear hfz6_0; try clear hfz6_1
    obtain ⟨kq, x14_1, rfl, HA, HJ1, BK108, HB⟩ := hcut
    cases kq with
    | zero => exact absurd HA.out (by simp [cnf_Right.j0])
    | succ kj1 =>
      have H := HA.out
      clear HA
      simp only [cnf_Right.j0] at H
      by_cases c7 : x14_1 = true
      case pos =>
        subst c7
        have H1 : (some ((-1), 1)) = some (r1, r2) := by rw [if_pos rfl] at H; exact H
        clear H
        have H := H1
        clear H1
        as_aux_lemma =>
          simp only [Option.some.injEq, Prod.mk.injEq] at H
          obtain ⟨rfl, rfl⟩ := H
          go_wp2
          go_ret2
          exact ⟨by first | rfl | (simp [errW_none, errW_some] <;> rfl) | (simp [*, errW_none, errW_some] <;> rfl), by repeat (first | (with_reducible first | exact HB.out | apply below_alloc | apply pw_below_drewN | apply below_drew1 | refine below_set ?_ GE108.out) | exact HB.out)⟩
      replace c7 := Bool.eq_false_iff.mpr c7
      subst c7
      have H1 : (if (l0_1.length : Int) > 4096 then (some ((-1), 2)) else (cnf_Right.l0 kj1 l0_1 (l0_1.length : Int) 0 a0_0 l0_1)) = some (r1, r2) := by rw [if_neg (show ¬ (false = true) by decide)] at H; exact H
      clear H
      have H := H1
      clear H1
      by_cases c8 : (l0_1.length : Int) > 4096
      case pos =>
        rw [if_pos c8] at H
        have c8b0 : decide (4096 < (l0_1.length : Int)) = true := decide_eq_true c8
        have c8b1 : decide (4096 < l0_1.length) = true := decide_eq_true (by omega)
        clear c8
        as_aux_lemma =>
          simp only [Option.some.injEq, Prod.mk.injEq] at H
          obtain ⟨rfl, rfl⟩ := H
          have hcz9_0 : wc.cell? ⟨gb108, 0, none⟩ = some (.int .i64 a0_0) := (blk_cell BK108.out 0).trans rfl
          have hcz9_1 : wc.cell? ⟨gb108, 1, none⟩ = some (.slice A0_1 l0_1.length c0_1) := (blk_cell BK108.out 1).trans rfl
          have hfz9_0 := blk_frozen BK108.out 0; have hfz9_1 := blk_frozen BK108.out 1
          go_wp2
          go_ret2
          exact ⟨by first | rfl | (simp [errW_none, errW_some] <;> rfl) | (simp [*, errW_none, errW_some] <;> rfl), by repeat (first | (with_reducible first | exact HB.out | apply below_alloc | apply pw_below_drewN | apply below_drew1 | refine below_set ?_ GE108.out) | exact HB.out)⟩
      rw [if_neg c8] at H
      have c8b0 : decide (4096 < (l0_1.length : Int)) = false := decide_eq_false c8
      have c8b1 : decide (4096 < l0_1.length) = false := decide_eq_false (by omega)
      clear c8
      have H' := K0 H
      clear H
      have hcz10_0 : wc.cell? ⟨gb108, 0, none⟩ = some (.int .i64 a0_0) := (blk_cell BK108.out 0).trans rfl
      have hcz10_1 : wc.cell? ⟨gb108, 1, none⟩ = some (.slice A0_1 l0_1.length c0_1) := (blk_cell BK108.out 1).trans rfl
      have hfz10_0 := blk_frozen BK108.out 0; have hfz10_1 := blk_frozen BK108.out 1
      go_wp2
      go_loopg [22] kj1 (fun kq v22 w' => ∃ (x22_2 : Int), v22 = .int .i64 x22_2 ∧ Aside0 (cnf_Right.l0 kq l0_1 (l0_1.length : Int) x22_2 a0_0 l0_1 = some (r1, r2)) ∧ Aside0 (kq ≤ kj1) ∧ Aside0 (w'.heap[gb108]? = some (.cells #[.int .i64 a0_0, (.slice A0_1 l0_1.length c0_1)] 24 (0, 0))) ∧ Aside0 (Below w.heap.size w w'))
      case atStart => exact ⟨(0), (by first | rfl | (simp; done) | (simp [*]; done)), H', ⟨Nat.le_refl _⟩, ⟨by (with_reducible repeat (first | refine blk_drewN ?_ _ | refine blk_drew ?_ | refine blk_alloc ?_ _)); exact BK108.out⟩, ⟨by repeat (first | (with_reducible first | exact HB.out | apply below_alloc | apply pw_below_drewN | apply below_drew1 | refine below_set ?_ GE108.out) | exact HB.out)⟩⟩
      case round =>
        clear H'; try clear p2; try clear c3; try clear c4; try clear c4b0; try clear c7; try clear c8; try clear c8b0; try clear c8b1; try clear hcz10_0; try clear hcz10_1; try clear hcz5_0; try clear hcz5_1; try clear hcz6_0; try clear hcz6_1; try clear hcz9_0; try clear hcz9_1; try clear hfz10_0; try clear hfz10_1; try clear hfz5_0; try clear hfz5_1; try clear hfz6_0; try clear hfz6_1; try clear hfz9_0; try clear hfz9_1; try clear p2
        obtain ⟨x22_2, rfl, HA, HK2, BK108, HB⟩ := hrel
        cases gk with
        | zero => exact absurd HA.out (by simp [cnf_Right.l0])
        | succ k2 =>
          have H := HA.out
          clear HA
          simp only [cnf_Right.l0] at H
          by_cases c11 : x22_2 < (l0_1.length : Int)
          case neg =>
            rw [if_neg c11] at H
            have c11b0 : decide (x22_2 < (l0_1.length : Int)) = false := decide_eq_false c11
            clear c11
            as_aux_lemma =>
              simp only [Option.some.injEq, Prod.mk.injEq] at H
              obtain ⟨rfl, rfl⟩ := H
              go_wp2
              go_ret2
              exact ⟨by first | rfl | (simp [errW_none, errW_some] <;> rfl) | (simp [*, errW_none, errW_some] <;> rfl), by repeat (first | (with_reducible first | exact HB.out | apply below_alloc | apply pw_below_drewN | apply below_drew1 | refine below_set ?_ GE108.out) | exact HB.out)⟩
          rw [if_pos c11] at H
          have c11b0 : decide (x22_2 < (l0_1.length : Int)) = true := decide_eq_true c11
          clear c11
          by_cases c12 : 0 ≤ x22_2
          case neg =>
            rw [if_neg c12] at H
            exact absurd H (by simp)
          rw [if_pos c12] at H
          have c12b0 : decide (0 ≤ x22_2) = true := decide_eq_true c12
          clear c12
          by_cases c13 : x22_2 < (l0_1.length : Int)
          case neg =>
            rw [if_neg c13] at H
            exact absurd H (by simp)
          rw [if_pos c13] at H
          have c13b0 : decide (x22_2 < (l0_1.length : Int)) = true := decide_eq_true c13
          clear c13
          replace H := Option.bind_eq_some_iff.mp H
          obtain ⟨t110, A140, H⟩ := H
          replace H : (if t110 = 0 then (cnf_Right.l0 k2 l0_1 (l0_1.length : Int) (wrap64 (x22_2 + 1)) a0_0 l0_1) else (some (x22_2, t110))) = some (r1, r2) := H
          have A14 := K0 A140; clear A140
          by_cases c15 : t110 = 0
          case neg =>
            rw [if_neg c15] at H
            have c15b0 : (t110 == 0) = false := beq_eq_false_iff_ne.mpr c15
            have c15b1 : (t110 != 0) = true := bne_iff_ne.mpr c15
            as_aux_lemma =>
              simp only [Option.some.injEq, Prod.mk.injEq] at H
              obtain ⟨rfl, rfl⟩ := H
              have p109 : 0 ≤ (x22_2 : Int) := of_decide_eq_true (by first | (with_reducible assumption) | assumption)
              have q109 : x22_2 < (l0_1.length : Int) := of_decide_eq_true (by first | (with_reducible assumption) | assumption)
              obtain ⟨ad109, A109_0, c109_0, e109, hx109_0, hl109_0, hi109_0⟩ := at_L3 HR0_1.out x22_2 p109 q109
              cases e109
              replace hx109_0 := (HB.out.cell (World.block_lt_of_cell? w _ hx109_0)).trans hx109_0
              have HR109_0 := K0 hi109_0; have HC109_0 := K0 hl109_0; clear hi109_0 hl109_0; replace p109 := eq_true p109; replace q109 := eq_true q109
              have hcz17_0 : wr.cell? ⟨gb108, 0, none⟩ = some (.int .i64 a0_0) := (blk_cell BK108.out 0).trans rfl
              have hcz17_1 : wr.cell? ⟨gb108, 1, none⟩ = some (.slice (some ad109) l0_1.length c0_1) := (blk_cell BK108.out 1).trans rfl
              have hfz17_0 := blk_frozen BK108.out 0; have hfz17_1 := blk_frozen BK108.out 1
              go_wp2_with (first | ((with_reducible refine gate_callee (f := 69) rfl ?_); refine goesL_ (some 30) rfl rfl Try.func69 (by kernel_rfl) rfl #[.slice A109_0 (rd_L3 l0_1 x22_2).length c109_0, .int .i64 a0_0] rfl (by (try simp only [List.map_toArray, List.map_cons, List.map_nil]); first | done | rfl | (simp only [List.length_drop, List.length_take]; rfl)) ?_; (with_reducible refine (lit_Right.calls k2 _ _ (rd_L3 l0_1 x22_2) a0_0 t110 _ ?side1 ?side2 A14.out).mono ?_); (case side1 => repeat (first | exact (Kd.C_below HR109_0.out HB.out) | (with_reducible refine Kd.C_alloc ?_ _) | (with_reducible refine Kd.C_drewN ?_ _) | (with_reducible refine Kd.C_drew ?_))); (case side2 => exact HC109_0.out); rintro e w' ⟨rfl, ⟨nd, rfl⟩⟩; refine ⟨_, rfl, ?_⟩))
              go_ret2
              exact ⟨by first | rfl | (simp [errW_none, errW_some] <;> rfl) | (simp [*, errW_none, errW_some] <;> rfl), by repeat (first | (with_reducible first | exact HB.out | apply below_alloc | apply pw_below_drewN | apply below_drew1 | refine below_set ?_ GE108.out) | exact HB.out)⟩
          rw [if_pos c15] at H
          have c15b0 : (t110 == 0) = true := beq_iff_eq.mpr c15
          have c15b1 : (t110 != 0) = false := bne_eq_false_iff_eq.mpr c15
          clear c15
          as_aux_lemma =>
            have H' := K0 H
            clear H
            have p109 : 0 ≤ (x22_2 : Int) := of_decide_eq_true (by first | (with_reducible assumption) | assumption)
            have q109 : x22_2 < (l0_1.length : Int) := of_decide_eq_true (by first | (with_reducible assumption) | assumption)
            obtain ⟨ad109, A109_0, c109_0, e109, hx109_0, hl109_0, hi109_0⟩ := at_L3 HR0_1.out x22_2 p109 q109
            cases e109
            replace hx109_0 := (HB.out.cell (World.block_lt_of_cell? w _ hx109_0)).trans hx109_0
            have HR109_0 := K0 hi109_0; have HC109_0 := K0 hl109_0; clear hi109_0 hl109_0; replace p109 := eq_true p109; replace q109 := eq_true q109
            have hcz16_0 : wr.cell? ⟨gb108, 0, none⟩ = some (.int .i64 a0_0) := (blk_cell BK108.out 0).trans rfl
            have hcz16_1 : wr.cell? ⟨gb108, 1, none⟩ = some (.slice (some ad109) l0_1.length c0_1) := (blk_cell BK108.out 1).trans rfl
            have hfz16_0 := blk_frozen BK108.out 0; have hfz16_1 := blk_frozen BK108.out 1
            go_wp2_with (first | ((with_reducible refine gate_callee (f := 69) rfl ?_); refine goesL_ (some 30) rfl rfl Try.func69 (by kernel_rfl) rfl #[.slice A109_0 (rd_L3 l0_1 x22_2).length c109_0, .int .i64 a0_0] rfl (by (try simp only [List.map_toArray, List.map_cons, List.map_nil]); first | done | rfl | (simp only [List.length_drop, List.length_take]; rfl)) ?_; (with_reducible refine (lit_Right.calls k2 _ _ (rd_L3 l0_1 x22_2) a0_0 t110 _ ?side1 ?side2 A14.out).mono ?_); (case side1 => repeat (first | exact (Kd.C_below HR109_0.out HB.out) | (with_reducible refine Kd.C_alloc ?_ _) | (with_reducible refine Kd.C_drewN ?_ _) | (with_reducible refine Kd.C_drew ?_))); (case side2 => exact HC109_0.out); rintro e w' ⟨rfl, ⟨nd, rfl⟩⟩; refine ⟨_, rfl, ?_⟩))
            go_roundg k2
            case measure => have := HJ1.out; have := HK2.out; omega
            case rel => exact ⟨(wrap64 (x22_2 + 1)), (by first | rfl | (simp; done) | (simp [*]; done)), H', ⟨by have := HJ1.out; have := HK2.out; omega⟩, ⟨by (with_reducible repeat (first | refine blk_drewN ?_ _ | refine blk_drew ?_ | refine blk_alloc ?_ _)); exact BK108.out⟩, ⟨by repeat (first | (with_reducible first | exact HB.out | apply below_alloc | apply pw_below_drewN | apply below_drew1 | refine below_set ?_ GE108.out) | exact HB.out)⟩⟩
def Eng.val (E : Eng) (l : Int) : Int := if (E.ms l).isSome = true then 1 else if (E.ms (wrap64 (-l))).isSome = true then -1 else 0
theorem wf_wrap (l : Int) : (Lit.int .i64 (wrap64 (-l))).wf = true := by
  have a : IntKind.i64.min = -9223372036854775808 := by decide
  have b : IntKind.i64.max = 9223372036854775807 := by decide
  unfold Lit.wf wrap64
  rw [Bool.and_eq_true, decide_eq_true_eq, decide_eq_true_eq]
  omega
theorem zero_mark (W : World) : (zeroValue 104).run Try.prog W = .ok (.agg #[.int .i64 0, .int .i64 0]) W := by kernel_rfl
theorem EngIn.look {w : World} {B : Nat} {T : Tag} {E : Eng} {p : EngP} (h : EngIn w B T E p) {W : World} (hb : Below w.heap.size w W) {x : Int} (hx : (Lit.int .i64 x).wf = true) :
    (Instr.lookup 69 (.map (some p.bm)) (.int .i64 x) true).run Try.prog W = .ok (.tuple #[.agg #[.int .i64 ((E.ms x).getD (0, 0)).1, .int .i64 ((E.ms x).getD (0, 0)).2], .bool (E.ms x).isSome]) W := by
  have := (h.below hb).ms.look_ok Try.underlying3 Try.underlying69 (zero_mark W) hx
  rw [this]
  unfold mkV
  cases E.ms x <;> rfl
set_option maxRecDepth 100000 in
set_option maxHeartbeats 1000000 in
theorem eng_Value.calls (E : Eng) (B : Nat) (T : Tag) (p : EngP) (l : Int) (w : World) (h : EngIn w B T E p) (hl : (Lit.int .i64 l).wf = true) :
    Calls Try.prog 27 #[.pointer (some ⟨B, 0, none⟩), .int .i64 l] w fun e w' => e = .returned (.int .i64 (E.val l)) ∧ Below w.heap.size w w' := by
  have q1 := h.look (Below.refl _ w) hl
  have c4 := h.cells.2.2.2.2.1
  obtain ⟨m1, hm1⟩ : ∃ m, (E.ms l).getD (0, 0) = m := ⟨_, rfl⟩
  obtain ⟨m2, hm2⟩ : ∃ m, (E.ms (wrap64 (-l))).getD (0, 0) = m := ⟨_, rfl⟩
  have hb2 : Below w.heap.size w (w.alloc (.cells #[.int .i64 m1.1, .int .i64 m1.2] 104)) := below_alloc (Below.refl _ _) _
  have q2 := h.look hb2 (wf_wrap l)
  have c42 := (h.below hb2).cells.2.2.2.2.1
  have hu := Try.underlying104
  have P6 : IntKind.i64.wrap (-l) = wrap64 (-l) := Go.IntWalk.i64_left _
  rw [hm1] at q1
  rw [hm2] at q2
  unfold Eng.val
  obtain ⟨b1, e1⟩ : ∃ b, (E.ms l).isSome = b := ⟨_, rfl⟩
  obtain ⟨b2, e2⟩ : ∃ b, (E.ms (wrap64 (-l))).isSome = b := ⟨_, rfl⟩
  rw [e1] at q1 ⊢
  rw [e2] at q2 ⊢
  clear hm1 hm2 e1 e2
  cases b1 with
  | true =>
    go_enter Try.func27, Try.ntmps27
    go_wp2
    go_ret
    exact ⟨rfl, by first | exact hb2 | (repeat (first | exact Below.refl _ _ | apply below_alloc))⟩
  | false =>
    cases b2 with
    | true =>
      go_enter Try.func27, Try.ntmps27
      go_wp2
      go_ret
      exact ⟨rfl, by repeat (first | exact Below.refl _ _ | apply below_alloc)⟩
    | false =>
      go_enter Try.func27, Try.ntmps27
      go_wp2
      go_ret
      exact ⟨rfl, by repeat (first | exact Below.refl _ _ | apply below_alloc)⟩
def Eng.put (E : Eng) (l why : Int) : Eng := { E with tr := E.tr ++ [l], ms := fun x => if x = l then some ((E.st.length : Int), why) else E.ms x }
theorem mkV_set (f : Int → Option (Int × Int)) (l a b : Int) (x : Int) : setI (mkV f) l (some (.agg #[.int .i64 a, .int .i64 b])) x = mkV (fun x => if x = l then some (a, b) else f x) x := by
  unfold setI mkV
  by_cases h : x = l
  · simp only [if_pos h]; rfl
  · simp only [if_neg h]
set_option maxRecDepth 100000 in
set_option maxHeartbeats 1000000 in
theorem eng_put.calls (E : Eng) (B : Nat) (T : Tag) (p : EngP) (l why : Int) (w : World) (h : EngIn w B T E p) (hl : (Lit.int .i64 l).wf = true) (hlen : E.tr.length < 4398046511104) :
    Calls Try.prog 72 #[.pointer (some ⟨B, 0, none⟩), .int .i64 l, .int .i64 why] w fun e w' => e = .returned (.tuple #[]) ∧ EngPost B T p (E.put l why) w w' := by
  have c3 := h.cells.2.2.2.1
  have f3 := h.cells.2.2.2.2.2.2.2 3
  have HE := K0 h
  have HLN := K0 hlen
  clear h hlen
  go_enter Try.func72, Try.ntmps72
  go_wp2_with (at_builtin; refine Kd.R_append (Kd.int .i64) (w0 := w) 0 rfl (.tmp 10) (.tmp 12) 37 3 (.int .i64 0) 8 rfl Try.underlying37 (by kernel_rfl) rfl (by decide) (by decide) p.vT E.tr l [.int .i64 l] (fun k => T k = (4, 0) ∨ w.heap.size ≤ k) (fun _ => False) rfl rfl rfl (fun _ h => h.elim) (fun k hk => .inr hk) (Kd.R_mono HE.out.tr (fun _ hk => .inl hk)) (Below.refl 0 _) (Nat.zero_le _) (by have := HLN.out; omega) ?_; intro v1 w1 r1 hb1 hg1 hat1; obtain ⟨A1, k1, e1⟩ := Kd.R_slice r1; rw [List.length_append, List.length_singleton] at e1; subst e1; obtain ⟨c31, f31⟩ : w1.cell? ⟨B, 3, none⟩ = some p.vT ∧ w1.frozen? ⟨B, 3, none⟩ = false := HE.out.after HE.out.tr.1 (by decide) hg1 3)
  obtain ⟨T1, E1, p1, h1, m1, hE1, hf1⟩ : ∃ T1 E1 p1, EngIn (w1.setCell ⟨B, 3, none⟩ (.slice A1 (E.tr.length + 1) k1)) B T1 E1 p1 ∧ Moved T T1 w (w1.setCell ⟨B, 3, none⟩ (.slice A1 (E.tr.length + 1) k1)) ∧ E1 = { E with tr := E.tr ++ [l] } ∧ p1.fw = p.fw := by
    obtain ⟨a1, a2⟩ := HE.out.turn_tr r1 hg1 (fun x hx => List.mem_append.2 (.inl (HE.out.mst x hx)))
    exact ⟨_, _, _, a1, a2, rfl, rfl⟩
  clear hb1 r1 hg1 hat1 c3 f3 c31 f31
  obtain ⟨W1, hW1⟩ : ∃ W1, w1.setCell ⟨B, 3, none⟩ (.slice A1 (E.tr.length + 1) k1) = W1 := ⟨_, rfl⟩
  rw [hW1] at h1 m1 ⊢
  have HE1 := K0 hE1
  have HF1 := K0 hf1
  have HD := K0 (h1.below (below_drew (Below.refl _ W1)))
  have HM := K0 (m1.trans (Moved.of_below (below_drew (Below.refl _ W1))))
  clear hW1 h1 m1 hE1 hf1
  have c4 := HD.out.cells.2.2.2.2.1
  obtain ⟨A5, n5, e5⟩ := Kd.R_slice HD.out.st
  have c5 := HD.out.cells.2.2.2.2.2.1
  rw [e5] at c5
  clear e5
  go_still_tail 12, (by kernel_rfl)
  refine wpList_store_I rfl (.tmp 19) (.tmp 20) (.tmp 27) 69 rfl 3 104 Try.underlying3 Try.underlying69 p1.bm (mkV E1.ms) rfl HD.out.ms l (.agg #[.int .i64 (E1.st.length : Int), .int .i64 why]) rfl rfl hl E1.tr (fun x hx => HD.out.mst x (by unfold mkV at hx; simpa using hx)) ?_ ?_
  · rw [HE1.out]
    have := HLN.out
    simp; omega
  · intro w2 hM2 hg2
    obtain ⟨h2, m2⟩ := HD.out.turn_ms (hM2.congr (mkV_set _ _ _ _)) hg2 (fun x hx => by
      by_cases e : x = l
      · rw [e, HE1.out]; simp
      · simp only [if_neg e] at hx
        exact HD.out.mst x hx)
    have H2 := K0 h2
    have M2 := K0 (HM.out.trans m2)
    clear h2 m2 hM2 hg2
    go_wp2
    go_end0
    refine ⟨rfl, T1, p1, ?_, M2.out, HF1.out⟩
    have h := H2.out
    rw [HE1.out] at h
    exact h
def scanU (E : Eng) : List Int → Int → Option Int
  | [], o => some o
  | l :: t, o => if E.val l > 0 then none else if E.val l = 0 then (if o = 0 then scanU E t l else none) else scanU E t o
def Eng.look (E : Eng) (n : Nat) : Eng := match scanU E (E.cls.getD n []) 0 with
  | none => E
  | some o => if o = 0 then { E with br := (n : Int) } else E.put o (n : Int)
theorem Eng.val_or (E : Eng) (l : Int) : E.val l = 1 ∨ E.val l = 0 ∨ E.val l = -1 := by
  unfold Eng.val
  split
  · exact .inl rfl
  · split
    · exact .inr (.inr rfl)
    · exact .inr (.inl rfl)
theorem EngIn.row {w : World} {B : Nat} {T : Tag} {E : Eng} {p : EngP} (h : EngIn w B T E p) (n : Nat) (hn : n < E.cls.length) : ∃ ad k A c, p.vC = .slice (some ad) E.cls.length k ∧ w.cell? (ad.add n) = some (.slice A E.cls[n].length c) ∧ Kd.C (Kd.int .i64) w A E.cls[n].length E.cls[n] := by
  obtain ⟨A0, k, e0⟩ := Kd.R_slice h.cls
  have hC := h.cls
  rw [e0] at hC
  obtain ⟨_, _, h3⟩ := Kd.R_reads' hC
  obtain ⟨ad, c, e1, hc1, hK, hcell⟩ := Kd.C_get h3 ((none, 0, 0) : Hd) (n : Int) (by omega) (by rw [h.len]; omega)
  have hx : p.hs[n]? = some (p.hs.getD n (none, 0, 0)) := by simp [show n < p.hs.length by rw [h.len]; exact hn]
  have hr := h.rows n _ _ hx (List.getElem?_eq_getElem hn)
  obtain ⟨A, c2, e2⟩ := Kd.R_slice hr
  have hr2 := hr
  rw [e2] at hr2
  have hK2 : c = [hdv (p.hs.getD ((n : Int).toNat) (none, 0, 0))] := hK
  refine ⟨ad, k, A, c2, by rw [e0, e1, h.len], ?_, (Kd.R_reads' hr2).2.2⟩
  have := hcell 0 _ (by rw [hK2, Int.toNat_natCast, e2]; rfl)
  rw [show ((n : Int).toNat * Kd.sz kH + 0) = n by rw [Int.toNat_natCast]; show n * 1 + 0 = n; omega] at this
  exact this
set_option maxRecDepth 100000 in
set_option maxHeartbeats 2000000 in
theorem eng_look.calls (E : Eng) (B : Nat) (T : Tag) (p : EngP) (n : Nat) (w : World) (h : EngIn w B T E p) (hn : n < E.cls.length) (hlit : ∀ x ∈ E.cls[n], (Lit.int .i64 x).wf = true) (hlen : E.tr.length < 4398046511104) :
    Calls Try.prog 70 #[.pointer (some ⟨B, 0, none⟩), .int .i64 (n : Int)] w fun e w' => e = .returned (.tuple #[]) ∧ EngPost B T p (E.look n) w w' := by
  obtain ⟨ad, k, A, c, e0, cr, hC⟩ := h.row n hn
  have c1 := h.cells.2.1
  rw [e0] at c1
  have hlk : E.look n = match scanU E E.cls[n] 0 with | none => E | some o => if o = 0 then { E with br := (n : Int) } else E.put o (n : Int) := by
    unfold Eng.look
    rw [List.getD_eq_getElem?_getD, List.getElem?_eq_getElem hn, Option.getD_some]
  obtain ⟨cl, hcl⟩ : ∃ cl, E.cls[n] = cl := ⟨_, rfl⟩
  rw [hcl] at cr hC hlk hlit
  obtain ⟨E2, hE2⟩ : ∃ E2, E.look n = E2 := ⟨_, rfl⟩
  rw [hE2] at hlk ⊢
  have hbig := hC.2.1
  have hcb : (E.cls.length : Int) ≤ 9223372036854775807 := by have := (Kd.R_reads' (e0 ▸ h.cls)).2.2.2.1; rw [h.len] at this; omega
  have HE := K0 h
  have HC := K0 hC
  have HK := K0 hlk
  have HL := K0 hlit
  have HLN := K0 hlen
  have p0 : ((0 : Int) ≤ (n : Int)) = True := eq_true (by omega)
  have p1 : ((n : Int) < (E.cls.length : Int)) = True := eq_true (by omega)
  have p2 : (n < E.cls.length) = True := eq_true hn
  clear h hC hlk hlit hlen hcl hE2 e0
  go_enter Try.func70, Try.ntmps70
  go_wp2
  go_loopg [4, 6, 7, 16, 23, 26, 33] cl.length (fun gg v4 _ _ v16 _ _ _ wr => ∃ (o : Int) (j : Nat), v4 = .int .i64 o ∧ v16 = .int .i64 (j : Int) ∧ Aside0 (j + gg = cl.length) ∧ Aside0 (Below w.heap.size w wr) ∧ Aside0 (scanU E cl 0 = scanU E (cl.drop j) o) ∧ Aside0 (o = 0 ∨ o ∈ cl))
  case atStart => exact ⟨0, 0, rfl, rfl, ⟨by simp⟩, ⟨Below.refl _ _⟩, ⟨rfl⟩, ⟨.inl rfl⟩⟩
  case round =>
    clear c1 cr
    obtain ⟨o, j, rfl, rfl, hg, hB, hS, hO⟩ := hrel
    by_cases hlt : j < cl.length
    · obtain ⟨ad2, e1, x1⟩ := Kd.at_int (Kd.C_below HC.out hB.out) (j : Int) (by omega) (by omega)
      cases e1
      obtain ⟨y, hy⟩ : ∃ y, cl[j] = y := ⟨_, rfl⟩
      have hrd : rd cl (j : Int) = y := by simp [rd, hlt, hy]
      rw [hrd] at x1
      simp only [Int.toNat_natCast] at x1
      have hmem : y ∈ cl := by rw [← hy]; exact List.getElem_mem hlt
      have hS2 := hS.out
      rw [List.drop_eq_getElem_cons hlt, hy, scanU] at hS2
      have hcall := eng_Value.calls E B T p y wr (HE.out.below hB.out) (HL.out y hmem)
      have HY := K0 hmem
      have P0 : ((0 : Int) ≤ (j : Int)) = True := eq_true (by omega)
      have P1 : ((j : Int) < (cl.length : Int)) = True := eq_true (by omega)
      have P2 : (j < cl.length) = True := eq_true hlt
      have hd : decide ((j : Int) < (cl.length : Int)) = true := decide_eq_true (by omega)
      rcases E.val_or y with hv | hv | hv
      · rw [hv] at hcall hS2
        rw [if_pos (by decide)] at hS2
        have HCALL := K0 hcall
        have HS2 := K0 hS2
        clear hS hS2 hcall hv hy hrd hmem
        go_wp2_with fail
        refine HCALL.out.mono ?_
        rintro e' w1 ⟨rfl, hb1⟩
        have HB1 := K0 (hB.out.trans (hb1.mono hB.out.size))
        clear hb1 HCALL
        go_wp2
        try simp only [Exit.inBlock, Exit.then]
        refine bodyPost_ret (results_none rfl _ _ _) rfl ?_
        refine ⟨rfl, T, p, ?_, Moved.of_below HB1.out, rfl⟩
        rw [HK.out, HS2.out]
        exact HE.out.below HB1.out
      · rw [hv] at hcall hS2
        rw [if_neg (by decide), if_pos rfl] at hS2
        have HCALL := K0 hcall
        have HS2 := K0 hS2
        clear hS hS2 hcall hv hy hrd hmem
        by_cases ho : o = 0
        · subst ho
          have hS3 := HS2.out
          rw [if_pos rfl] at hS3
          have HS3 := K0 hS3
          clear hS3 HS2
          go_wp2_with fail
          refine HCALL.out.mono ?_
          rintro e' w1 ⟨rfl, hb1⟩
          have HB1 := K0 (hB.out.trans (hb1.mono hB.out.size))
          clear hb1 HCALL
          go_wp2
          go_roundg (cl.length - (j + 1))
          case measure => have := hg.out; omega
          case rel => exact ⟨y, j + 1, rfl, by simp, ⟨by have := hg.out; omega⟩, HB1, HS3, ⟨.inr HY.out⟩⟩
        · have hS3 := HS2.out
          rw [if_neg ho] at hS3
          have HS3 := K0 hS3
          have c1' : (o != 0) = true := by simpa using ho
          have c2' : (o == 0) = false := by simpa using ho
          clear hS3 HS2 ho
          go_wp2_with fail
          refine HCALL.out.mono ?_
          rintro e' w1 ⟨rfl, hb1⟩
          have HB1 := K0 (hB.out.trans (hb1.mono hB.out.size))
          clear hb1 HCALL
          go_wp2
          try simp only [Exit.inBlock, Exit.then]
          refine bodyPost_ret (results_none rfl _ _ _) rfl ?_
          refine ⟨rfl, T, p, ?_, Moved.of_below HB1.out, rfl⟩
          rw [HK.out, HS3.out]
          exact HE.out.below HB1.out
      · rw [hv] at hcall hS2
        rw [if_neg (by decide), if_neg (by decide)] at hS2
        have HCALL := K0 hcall
        have HS2 := K0 hS2
        clear hS hS2 hcall hv hy hrd hmem
        go_wp2_with fail
        refine HCALL.out.mono ?_
        rintro e' w1 ⟨rfl, hb1⟩
        have HB1 := K0 (hB.out.trans (hb1.mono hB.out.size))
        clear hb1 HCALL
        go_wp2
        go_roundg (cl.length - (j + 1))
        case measure => have := hg.out; omega
        case rel => exact ⟨o, j + 1, rfl, by simp, ⟨by have := hg.out; omega⟩, HB1, HS2, hO⟩
    · have hd : decide ((j : Int) < (cl.length : Int)) = false := decide_eq_false (by omega)
      have hS2 := hS.out
      rw [List.drop_of_length_le (by omega), scanU] at hS2
      have hk := HK.out
      rw [hS2] at hk
      simp only at hk
      have HB := K0 hB.out
      by_cases ho : o = 0
      · subst ho
        rw [if_pos rfl] at hk
        have hE := HE.out.below HB.out
        obtain ⟨h2, m2⟩ := hE.turn_br (n : Int)
        have H2 := K0 h2
        have M2 := K0 ((Moved.of_below HB.out).trans m2)
        have HK2 := K0 hk
        have c6 := hE.cells.2.2.2.2.2.2.1
        have f6 := hE.cells.2.2.2.2.2.2.2 6
        clear hk h2 m2 hE hS hS2 HK
        go_wp2
        try simp only [Exit.inBlock, Exit.then]
        refine bodyPost_ret (results_none rfl _ _ _) rfl ?_
        refine ⟨rfl, T, p, ?_, M2.out, rfl⟩
        rw [HK2.out]
        exact H2.out
      · rw [if_neg ho] at hk
        have HK2 := K0 hk
        have c1' : (o != 0) = true := by simpa using ho
        have c2' : (o == 0) = false := by simpa using ho
        have HCALL := K0 (eng_put.calls E B T p o (n : Int) wr (HE.out.below HB.out) (HL.out o (hO.out.resolve_left ho)) HLN.out)
        clear hk hS hS2 HK ho
        go_wp2_with fail
        refine HCALL.out.mono ?_
        rintro e' w1 ⟨rfl, T2, p2, h2, m2, hf2⟩
        have H2 := K0 h2
        have M2 := K0 ((Moved.of_below HB.out).trans m2)
        have HF2 := K0 hf2
        clear h2 m2 hf2 HCALL
        go_wp2
        go_end0
        refine ⟨rfl, T2, p2, ?_, M2.out, HF2.out⟩
        rw [HK2.out]
        exact H2.out
end Go.Proofs.Ytkmlekfmccghjaa.P
