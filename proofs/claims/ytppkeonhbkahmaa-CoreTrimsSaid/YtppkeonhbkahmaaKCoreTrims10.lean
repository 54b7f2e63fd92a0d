import Derived.Deep.DeepCutAuto
import Derived.Laws.EntriesVeiled
import Derived.StillTailTactics
import Derived.Shelf.Abstract
import Derived.Test.YtppkeonhbkahmaaKCoreTrims1
import Derived.Test.YtppkeonhbkahmaaKCoreTrims3
import Derived.Test.YtppkeonhbkahmaaKCoreTrims9
namespace Go.Proofs.Ytppkeonhbkahmaa.P
open Go.RowKit Go.Proofs.YtppkeonhbkahmaaW.PrintWords Go.Proofs.YtppkeonhbkahmaaW.PrintLast Go.Proofs.YtppkeonhbkahmaaW.PrintMore
attribute [local go_sem] max2_int min2_int max_two min_two max_three min_three max_four min_four
set_option linter.unusedVariables false
set_option linter.unusedSimpArgs false
def nilL (l : List Int) : Bool := (l.length : Int) == 0
def endsE (x : S48) : Bool := nilL x.f0
def chain_Refutes.f (k : Nat) (a0_0 : Int) (l0_1 : List (List Int)) (l1 : List S48) : Option (Int × Int) :=
  (chain_Check.f k a0_0 l0_1 l1).bind fun s => if s.2 = 0 then
    (if (decide (0 ≤ ixOf nilL l0_1 0)) = true then some (0, 0) else if (decide (0 ≤ ixOf endsE l1 0)) = true then some (0, 0) else some ((l1.length : Int), 24))
   else some s
set_option maxRecDepth 100000 in
theorem chain_Refutes_1.calls (A : Option Addr) (c : Nat) (x : List Int) (W : World) (hr : Kd.C (Kd.int .i64) W A x.length x) :
    Calls Try.prog 28 #[.slice A x.length c] W fun e W' => e = .returned (.bool (nilL x)) ∧ W' = W := by
  have hb := hr.2.1
  clear hr
  go_enter Try.func28, Try.ntmps28
  go_wp2
  go_ret
  exact ⟨rfl, rfl⟩
set_option maxRecDepth 100000 in
theorem chain_Refutes_2.calls (x : S48) (A0 : Option Addr) (c0 : Nat) (A1 : Option Addr) (c1 : Nat) (B : Nat) (W : World) (hr0 : Kd.C (Kd.int .i64) W A0 x.f0.length x.f0)
    (hB : W.cell? ⟨B, 0, none⟩ = some (.func (.func 28) #[] #[])) :
    Calls Try.prog 31 #[.agg #[.slice A0 x.f0.length c0, .slice A1 x.f1.length c1], .pointer (some ⟨B, 0, none⟩)] W fun e W' => e = .returned (.bool (endsE x)) ∧ Below W.heap.size W W' := by
  obtain ⟨xf, xl⟩ := x
  dsimp only at hr0 ⊢
  have hu := Try.underlying48
  have hlt := World.block_lt_of_cell? W _ hB
  have hb1 : Below W.heap.size W (W.alloc (.cells #[.slice A0 xf.length c0, .slice A1 xl.length c1] 48)) := below_alloc (Below.refl _ _) _
  have hB2 := (hb1.cell hlt).trans hB
  have HC := K0 (chain_Refutes_1.calls A0 c0 xf _ (Kd.C_below hr0 hb1))
  have HB := K0 hb1
  clear hr0 hb1
  go_enter Try.func31, Try.ntmps31
  go_wp2_with fail
  refine HC.out.mono ?_
  rintro e w' ⟨rfl, rfl⟩
  go_wp2
  go_ret
  exact ⟨rfl, HB.out⟩
set_option maxRecDepth 100000 in
set_option maxHeartbeats 4000000 in
theorem chain_Refutes.calls (k : Nat) (a0_0 : Int) (A0_1 : Option Addr) (c0_1 : Nat) (l0_1 : List (List Int)) (A1 : Option Addr) (c1 : Nat) (l1 : List S48) (r1 r2 : Int) (w : World)
    (hr0_1 : Kd.C (Kd.slice 3 (Kd.int .i64)) w A0_1 l0_1.length l0_1) (hc0_1 : l0_1.length ≤ c0_1) (hr1 : Kd.C k48 w A1 l1.length l1) (hc1 : l1.length ≤ c1) (h : chain_Refutes.f k a0_0 l0_1 l1 = some (r1, r2)) :
    Calls Try.prog 14 #[.agg #[.int .i64 a0_0, .slice A0_1 l0_1.length c0_1], .slice A1 l1.length c1] w fun e w' => e = .returned (.tuple #[.int .i64 r1, .int .i64 r2]) ∧ Below w.heap.size w w' := by
  unfold chain_Refutes.f at h
  obtain ⟨⟨b1, b2⟩, hb, h⟩ := Option.bind_eq_some_iff.mp h
  dsimp only at h
  have hbig := hr1.2.1
  have huC := Try.underlying24
  obtain ⟨WA, hWA⟩ : ∃ WA : World, w.alloc (.cells #[.int .i64 a0_0, .slice A0_1 l0_1.length c0_1] 24) = WA := ⟨_, rfl⟩
  obtain ⟨Z, hZ⟩ : ∃ Z : World → Prop, Z = fun W => W.heap[w.heap.size]? = some (.cells #[.int .i64 a0_0, .slice A0_1 l0_1.length c0_1] 24 (0, 0)) ∧ Below w.heap.size w W ∧ w.heap.size < W.heap.size := ⟨_, rfl⟩
  have hZA : Z WA := by
    rw [hZ, ← hWA]
    exact ⟨blk_new w _, below_alloc (Below.refl _ w) _, by simp⟩
  have hzB : ∀ {W : World}, Z W → Below w.heap.size w W := fun h => by rw [hZ] at h; exact h.2.1
  have hzb : ∀ {W W' : World}, Z W → Below W.heap.size W W' → Z W' := fun h hb => by
    rw [hZ] at h ⊢
    exact ⟨blk_below h.1 hb, h.2.1.trans (hb.mono h.2.1.size), Nat.lt_of_lt_of_le h.2.2 hb.size⟩
  have hzc : ∀ {W : World}, Z W → W.cell? ⟨w.heap.size, 0, none⟩ = some (.int .i64 a0_0) ∧ W.cell? ⟨w.heap.size, 1, none⟩ = some (.slice A0_1 l0_1.length c0_1) := fun h => by
    rw [hZ] at h
    exact ⟨blk_cell h.1 0, blk_cell h.1 1⟩
  have HRC := K0 hr0_1
  have HL := K0 hr1
  have HR := K0 (chain_Check.calls k a0_0 A0_1 c0_1 l0_1 A1 c1 l1 b1 b2 WA (Kd.C_below hr0_1 (hzB hZA)) hc0_1 (Kd.C_below hr1 (hzB hZA)) hc1 hb)
  have H := K0 h
  have HZA := K0 hZA
  obtain ⟨p0, p1⟩ := hzc hZA
  clear hr0_1 hr1 hb h hZ hZA
  go_enter Try.func14, Try.ntmps14
  go_wp2_with fail
  refine HR.out.mono ?_
  rintro e' w1 ⟨rfl, hb1⟩
  have HZ1 := K0 (hzb HZA.out hb1)
  clear hWA p0 p1 hb1 HR HZA
  obtain ⟨p0, p1⟩ := hzc HZ1.out
  by_cases e0 : b2 = 0
  · subst e0
    have h := H.out
    rw [if_pos rfl] at h
    clear H
    obtain ⟨W2, hW2⟩ : ∃ W2 : World, w1.alloc (.cells #[.func (.func 28) #[] #[]] 60) = W2 := ⟨_, rfl⟩
    have hk2 : W2.heap[w1.heap.size]? = some (.cells #[.func (.func 28) #[] #[]] 60 (0, 0)) := by rw [← hW2]; exact blk_new w1 _
    have hb2 : Below w1.heap.size w1 W2 := by rw [← hW2]; exact below_alloc (Below.refl _ _) _
    have hz2 := hzb HZ1.out hb2
    have q0 : W2.cell? ⟨w1.heap.size, 0, none⟩ = some (.func (.func 28) #[] #[]) := blk_cell hk2 0
    have HK2 := K0 hk2
    have HZ2 := K0 hz2
    clear p0 p1 hk2 hb2 hz2 HZ1
    obtain ⟨p0, p1⟩ := hzc HZ2.out
    have HC := K0 (slices_ContainsFunc_rows.calls 28 #[] (enters_of Try.func28 (by kernel_rfl) rfl) nilL A0_1 c0_1 l0_1 W2 (Kd.C_below HRC.out (hzB HZ2.out)) (fun W hbW y hy Ay cy hly hCy => (chain_Refutes_1.calls Ay cy y W hCy).mono (fun e W' hh => ⟨hh.1, hh.2 ▸ Below.refl _ _⟩)))
    obtain ⟨q1, hq1⟩ : ∃ q1, decide (0 ≤ ixOf nilL l0_1 0) = q1 := ⟨_, rfl⟩
    rw [hq1] at HC h
    have H := K0 h
    clear h hq1
    go_wp2_with fail
    refine HC.out.mono ?_
    rintro e' w3 ⟨rfl, hb3⟩
    have HZ3 := K0 (hzb HZ2.out hb3)
    have HK3 := K0 (blk_below HK2.out hb3)
    clear p0 p1 q0 hb3 HC HZ2 HK2 hW2
    cases q1 with
    | true =>
      have h := H.out
      rw [if_pos rfl] at h
      simp only [Option.some.injEq, Prod.mk.injEq] at h
      obtain ⟨rfl, rfl⟩ := h
      go_wp2
      go_ret2
      exact ⟨rfl, hzB HZ3.out⟩
    | false =>
      have h := H.out
      rw [if_neg (by decide)] at h
      clear H
      have HC := K0 (slices_ContainsFunc_chains.calls 31 #[.pointer (some ⟨w1.heap.size, 0, none⟩)] (enters_of Try.func31 (by kernel_rfl) rfl) endsE A1 c1 l1 w3 (Kd.C_below HL.out (hzB HZ3.out)) (fun W hbW y hy Ay0 cy0 Ay cy hly0 hCy0 hly hCy => chain_Refutes_2.calls y Ay0 cy0 Ay cy w1.heap.size W hCy0 (by have := blk_cell (blk_below HK3.out hbW) 0; exact this)))
      obtain ⟨q2, hq2⟩ : ∃ q2, decide (0 ≤ ixOf endsE l1 0) = q2 := ⟨_, rfl⟩
      rw [hq2] at HC h
      have H := K0 h
      clear h hq2
      go_wp2_with fail
      refine HC.out.mono ?_
      rintro e' w4 ⟨rfl, hb4⟩
      have HZ4 := K0 (hzb HZ3.out hb4)
      clear hb4 HC HZ3
      cases q2 with
      | true =>
        have h := H.out
        rw [if_pos rfl] at h
        simp only [Option.some.injEq, Prod.mk.injEq] at h
        obtain ⟨rfl, rfl⟩ := h
        go_wp2
        go_ret2
        exact ⟨rfl, hzB HZ4.out⟩
      | false =>
        have h := H.out
        rw [if_neg (by decide)] at h
        simp only [Option.some.injEq, Prod.mk.injEq] at h
        obtain ⟨rfl, rfl⟩ := h
        go_wp2
        go_ret2
        exact ⟨rfl, hzB HZ4.out⟩
  · have h := H.out
    rw [if_neg e0] at h
    simp only [Option.some.injEq, Prod.mk.injEq] at h
    obtain ⟨rfl, rfl⟩ := h
    have c1' : (b2 != 0) = true := by simpa using e0
    have c2' : (b2 == 0) = false := by simpa using e0
    clear e0
    go_wp2
    go_ret2
    exact ⟨rfl, hzB HZ1.out⟩
set_option maxRecDepth 100000 in
set_option maxHeartbeats 4000000 in
theorem core_mark.calls {wl : World} {n0 : Int} {A0 : Option Addr} {c0 : Nat} {l0 : List (List Int)} {A1 : Option Addr} {c1_ : Nat} {l1 : List S48} (hr1 : Kd.C k48 wl A1 l1.length l1) (hl0 : l0.length < 1099511627776) (gM gC gL gF bM : Nat) :
    ∀ (m : Nat) (w : World) (s s' : List Int) (v : Int), MkIn wl w gM gC gL gF bM n0 A0 c0 l0 A1 c1_ l1 s → markP l0.length (l1.map (·.f1)) m s v = some s' →
    Calls Try.prog 44 #[.int .i64 v, .pointer (some ⟨gM, 0, none⟩), .pointer (some ⟨gC, 0, none⟩), .pointer (some ⟨gL, 0, none⟩), .pointer (some ⟨gF, 0, none⟩)] w fun e w' => e = .returned (.tuple #[]) ∧ MkIn wl w' gM gC gL gF bM n0 A0 c0 l0 A1 c1_ l1 s' ∧ w.grownBy w' (some bM) := by
  have HCH := K0 hr1
  have eg := enters_of Try.func44 (by kernel_rfl) rfl
  have hbigL := hr1.2.1
  clear hr1
  intro m
  induction m with
  | zero => intro w s s' v _ h; cases h
  | succ m ih =>
    intro w s s' v hL hp
    unfold markP at hp
    split at hp
    · rename_i hsz
      obtain ⟨hvw, hln⟩ := hsz
      have HL := K0 hL; have HW := K0 hvw; have HLN := K0 hln; have IH := K0 ih
      have c1 : w.cell? ⟨gM, 0, none⟩ = some (.map (some bM)) := (blk_cell HL.out.cM 0).trans rfl
      have q1 := HL.out.look HW.out
      clear hL hvw hln ih
      by_cases hseen : v ∈ s
      case pos =>
        rw [if_pos hseen] at hp
        injection hp with hp
        subst hp
        rw [decide_eq_true hseen] at q1
        clear hseen
        go_enter Try.func44, Try.ntmps44
        go_wp2
        ((try simp only [Exit.inBlock, Exit.then]); refine bodyPost_ret (results_none rfl _ _ _) rfl ?_)
        exact ⟨rfl, HL.out, ⟨rfl, rfl, rfl, Nat.le_refl _, fun _ _ _ => rfl⟩⟩
      rw [if_neg hseen] at hp
      rw [decide_eq_false hseen] at q1
      have HSN := K0 hseen; clear hseen
      by_cases hlt : v < (l0.length : Int)
      case pos =>
        rw [if_pos hlt] at hp
        injection hp with hp
        subst hp
        have d : decide (v < (l0.length : Int)) = true := decide_eq_true hlt
        clear hlt
        go_enter Try.func44, Try.ntmps44
        go_wp2_with (refine wpList_store_I rfl (.tmp 11) (.tmp 12) (.const (.bool true)) 75 rfl 3 4 Try.underlying3 Try.underlying75 bM (seen25 s) rfl HL.out.mp v (.bool true) rfl rfl HW.out s (fun x hx => by unfold seen25 at hx; split at hx; assumption; cases hx) (by have := HLN.out; omega) ?_; intro w3 hM3 hg3; have HL3 := K0 (HL.out.see hM3 hg3); have HG3 := K0 hg3; clear hM3 hg3 HL c1 q1; have c2 : w3.cell? ⟨gC, 1, none⟩ = some (.slice A0 l0.length c0) := (blk_cell HL3.out.cC 1).trans rfl)
        ((try simp only [Exit.inBlock, Exit.then]); refine bodyPost_ret (results_none rfl _ _ _) rfl ?_)
        exact ⟨rfl, HL3.out, HG3.out⟩
      rw [if_neg hlt] at hp
      split at hp
      · rename_i hi
        have d : decide (v < (l0.length : Int)) = false := decide_eq_false hlt
        obtain ⟨i, hi0⟩ : ∃ i : Nat, v = ((l0.length + i : Nat) : Int) := ⟨(v - l0.length).toNat, by omega⟩
        have hv1 : (v - (l0.length : Int)).toNat = i := by omega
        rw [hv1] at hi hp
        rw [List.length_map] at hi
        have hv2 : wrap64 (v - (l0.length : Int)) = (i : Int) := by unfold wrap64; omega
        obtain ⟨y, hy⟩ : ∃ y, l1[i] = y := ⟨_, rfl⟩
        have hgd : (l1.map (·.f1)).getD i [] = y.f1 := by rw [List.getD_eq_getElem?_getD, List.getElem?_map, List.getElem?_eq_getElem hi, hy]; rfl
        rw [hgd] at hp
        have HPE := K0 hp
        have P0 : ((0 : Int) ≤ (i : Int)) = True := eq_true (by omega)
        have P1 : ((i : Int) < (l1.length : Int)) = True := eq_true (by omega)
        have P2 : (i < l1.length) = True := eq_true hi
        obtain ⟨ad, B0, k0, B1, k1, e1, x1, x2, hl0_, hC0, hl1, hC1⟩ := at_T48 HCH.out (i : Int) (by omega) (by omega)
        have hrd : rd_T48 l1 (i : Int) = y := by rw [← hy]; simp [rd_T48, hi]
        rw [hrd] at x1 x2 hl0_ hC0 hl1 hC1
        simp only [Int.toNat_natCast] at x1 x2
        obtain ⟨N1, hN1⟩ : ∃ N1, l1.length = N1 := ⟨_, rfl⟩
        have HCR := K0 hC1; have HX := K0 x2
        have hbig := hC1.2.1
        have HE := K0 e1; clear hp hlt hgd hv1 hy hi hi0 hrd hC0 hC1 hl0_ x1 x2 hN1 N1; subst e1
        go_enter Try.func44, Try.ntmps44
        go_wp2_with (refine wpList_store_I rfl (.tmp 11) (.tmp 12) (.const (.bool true)) 75 rfl 3 4 Try.underlying3 Try.underlying75 bM (seen25 s) rfl HL.out.mp v (.bool true) rfl rfl HW.out s (fun x hx => by unfold seen25 at hx; split at hx; assumption; cases hx) (by have := HLN.out; omega) ?_; intro w3 hM3 hg3; have HL3 := K0 (HL.out.see hM3 hg3); have HG3 := K0 hg3; clear hM3 hg3 HL c1 q1; have c2 : w3.cell? ⟨gC, 1, none⟩ = some (.slice A0 l0.length c0) := (blk_cell HL3.out.cC 1).trans rfl; have c3 : w3.cell? ⟨gL, 0, none⟩ = some (.slice (some ad) l1.length c1_) := (blk_cell HL3.out.cL 0).trans rfl; have x2 := (HL3.out.bel.cell (World.block_lt_of_cell? wl _ HX.out)).trans HX.out)
        clear c2 c3 x2
        go_loopg [7, 28] y.f1.length (fun gg v7 v28 wr => ∃ (j : Nat) (s1 : List Int), v28 = .int .i64 (j : Int) ∧ Aside0 (j + gg = y.f1.length) ∧ Aside0 (MkIn wl wr gM gC gL gF bM n0 A0 c0 l0 (some ad) c1_ l1 s1) ∧ Aside0 (w.grownBy wr (some bM)) ∧ Aside0 (foldM (fun s x => markP l0.length (l1.map (·.f1)) m s x) (y.f1.drop j) s1 = some s'))
        case atStart => exact ⟨0, _, rfl, ⟨by simp⟩, HL3, HG3, HPE⟩
        case round =>
          clear HL3 HG3 HPE
          obtain ⟨j, s1, rfl, hg, HLr, HGr, HPE⟩ := hrel
          by_cases hlt2 : j < y.f1.length
          case neg =>
            have hd2 : decide ((j : Int) < (y.f1.length : Int)) = false := decide_eq_false (by omega)
            have Q2 : (j < y.f1.length) = False := eq_false hlt2
            have hp := HPE.out
            rw [List.drop_of_length_le (by omega), foldM] at hp
            injection hp with hp
            subst hp; clear HPE
            go_wp2
            go_end0
            exact ⟨rfl, HLr.out, HGr.out⟩
          obtain ⟨ad2, e2, x2⟩ := Kd.at_int (Kd.C_below HCR.out HLr.out.bel) (j : Int) (by omega) (by omega)
          cases e2
          obtain ⟨z, hz⟩ : ∃ z, y.f1[j] = z := ⟨_, rfl⟩
          have hrd : rd y.f1 (j : Int) = z := by simp [rd, hlt2, hz]
          rw [hrd] at x2
          simp only [Int.toNat_natCast] at x2
          have hp := HPE.out
          rw [List.drop_eq_getElem_cons hlt2, hz, foldM] at hp
          obtain ⟨s2, hs2, hp2⟩ := Option.bind_eq_some_iff.mp hp
          have HP2 := K0 hp2
          have Q0 : ((0 : Int) ≤ (j : Int)) = True := eq_true (by omega)
          have Q1 : ((j : Int) < (y.f1.length : Int)) = True := eq_true (by omega)
          have Q2 : (j < y.f1.length) = True := eq_true hlt2
          have hd2 : decide ((j : Int) < (y.f1.length : Int)) = true := decide_eq_true (by omega)
          have c4 : wr.cell? ⟨gF, 0, none⟩ = some (.func (.func 44) #[] #[.pointer (some ⟨gM, 0, none⟩), .pointer (some ⟨gC, 0, none⟩), .pointer (some ⟨gL, 0, none⟩), .pointer (some ⟨gF, 0, none⟩)]) := (blk_cell HLr.out.cF 0).trans rfl
          have HC := K0 (IH.out wr s1 s2 z HLr.out hs2)
          clear hz hrd hp hs2 hp2 HPE HLr
          go_wp2_with fail
          refine HC.out.mono ?_
          rintro e' w5 ⟨rfl, h5, g5⟩
          have HL5 := K0 h5
          have HG5 := K0 (World.grownBy.trans HGr.out g5)
          clear h5 g5 HGr HC c4 x2
          go_wp2
          go_roundg (y.f1.length - (j + 1))
          case measure => have := hg.out; omega
          case rel => exact ⟨j + 1, s2, by simp, ⟨by have := hg.out; omega⟩, HL5, HG5, HP2⟩
      cases hp
    cases hp
def core_need.f (k : Nat) (a0_0 : Int) (l0_1 : List (List Int)) (l1 : List S48) : Option (List Int × List Int × Int) :=
  (chain_Refutes.f k a0_0 l0_1 l1).bind fun r => if r.2 = 0 then
    (if 0 ≤ ixOf nilL l0_1 0 then some ([ixOf nilL l0_1 0], [], 0)
     else if 0 ≤ ixOf endsE l1 0 ∧ l0_1.length + l1.length < 1099511627776 then (markP l0_1.length (l1.map (·.f1)) k [] (l0_1.length + ixOf endsE l1 0)).bind fun s =>
       some (nums25 (fun v => decide ((v : Int) ∈ s)) l0_1.length, nums25 (fun i => decide (((l0_1.length + i : Nat) : Int) ∈ s)) l1.length, 0)
     else none)
   else some ([], [], r.2)
set_option maxRecDepth 100000 in
theorem core_need_1.calls (A : Option Addr) (c : Nat) (x : List Int) (W : World) (hr : Kd.C (Kd.int .i64) W A x.length x) :
    Calls Try.prog 43 #[.slice A x.length c] W fun e W' => e = .returned (.bool (nilL x)) ∧ W' = W := by
  have hb := hr.2.1
  clear hr
  go_enter Try.func43, Try.ntmps43
  go_wp2
  go_ret
  exact ⟨rfl, rfl⟩
set_option maxRecDepth 100000 in
theorem core_need_3.calls (x : S48) (A0 : Option Addr) (c0 : Nat) (A1 : Option Addr) (c1 : Nat) (W : World) (hr0 : Kd.C (Kd.int .i64) W A0 x.f0.length x.f0) :
    Calls Try.prog 46 #[.agg #[.slice A0 x.f0.length c0, .slice A1 x.f1.length c1]] W fun e W' => e = .returned (.bool (endsE x)) ∧ Below W.heap.size W W' := by
  obtain ⟨xf, xl⟩ := x
  dsimp only at hr0 ⊢
  have hu := Try.underlying48
  have hb := hr0.2.1
  have hb1 : Below W.heap.size W (W.alloc (.cells #[.slice A0 xf.length c0, .slice A1 xl.length c1] 48)) := below_alloc (Below.refl _ _) _
  have HB := K0 hb1; clear hr0 hb1
  go_enter Try.func46, Try.ntmps46
  go_wp2
  go_ret
  exact ⟨rfl, HB.out⟩
theorem ixR {α : Type} (p : α → Bool) : ∀ (l : List α) (i : Nat), ixOf p l (i : Int) = -1 ∨ ∃ j : Nat, j < l.length ∧ ixOf p l (i : Int) = ((i + j : Nat) : Int)
  | [], i => .inl rfl
  | x :: t, i => by
    unfold ixOf
    split
    · exact .inr ⟨0, by simp, rfl⟩
    rcases ixR p t (i + 1) with e | ⟨j, hj, e⟩
    · exact .inl (by rw [show ((i : Int) + 1) = ((i + 1 : Nat) : Int) by omega]; exact e)
    exact .inr ⟨j + 1, by simpa using hj, by rw [show ((i : Int) + 1) = ((i + 1 : Nat) : Int) by omega, e]; omega⟩
set_option maxRecDepth 100000 in
set_option maxHeartbeats 4000000 in
theorem core_need.calls (k : Nat) (a0_0 : Int) (A0_1 : Option Addr) (c0_1 : Nat) (l0_1 : List (List Int)) (A1 : Option Addr) (c1 : Nat) (l1 : List S48) (r1 r2 : List Int) (r3 : Int) (w : World)
    (hr0_1 : Kd.C (Kd.slice 3 (Kd.int .i64)) w A0_1 l0_1.length l0_1) (hc0_1 : l0_1.length ≤ c0_1) (hr1 : Kd.C k48 w A1 l1.length l1) (hc1 : l1.length ≤ c1) (h : core_need.f k a0_0 l0_1 l1 = some (r1, r2, r3)) :
    Calls Try.prog 22 #[.agg #[.int .i64 a0_0, .slice A0_1 l0_1.length c0_1], .slice A1 l1.length c1] w fun e w' => ∃ v1_ v2_ : Value, e = .returned (.tuple #[.agg #[v1_, v2_], .int .i64 r3]) ∧ Kd.R (Kd.int .i64) 3 w' w.heap.size (fun _ => True) v1_ r1 ∧ Kd.R (Kd.int .i64) 3 w' w.heap.size (fun _ => True) v2_ r2 ∧ Below w.heap.size w w' := by
  unfold core_need.f at h
  obtain ⟨⟨b1, b2⟩, hb, h2⟩ := Option.bind_eq_some_iff.mp h
  clear h
  dsimp only at h2
  have hbig := hr1.2.1
  have hbig0 := hr0_1.2.1
  have huC := Try.underlying24
  have huN := Try.underlying51
  obtain ⟨gR, hgR⟩ : ∃ g, w.heap.size + 1 + 1 = g := ⟨_, rfl⟩
  obtain ⟨gL, hgL⟩ : ∃ g, w.heap.size + 1 = g := ⟨_, rfl⟩
  obtain ⟨WA, hWA⟩ : ∃ WA : World, ((w.alloc (.cells #[.int .i64 a0_0, .slice A0_1 l0_1.length c0_1] 24)).alloc (.cells #[.slice A1 l1.length c1] 25)).alloc (.cells #[.slice none 0 0, .slice none 0 0] 51) = WA := ⟨_, rfl⟩
  obtain ⟨Z, hZ⟩ : ∃ Z : World → Prop, Z = fun W => W.heap[w.heap.size]? = some (.cells #[.int .i64 a0_0, .slice A0_1 l0_1.length c0_1] 24 (0, 0)) ∧ W.heap[gL]? = some (.cells #[.slice A1 l1.length c1] 25 (0, 0)) ∧ W.heap[gR]? = some (.cells #[.slice none 0 0, .slice none 0 0] 51 (0, 0)) ∧ Below w.heap.size w W ∧ gR < W.heap.size := ⟨_, rfl⟩
  have hZA : Z WA := by
    rw [hZ, ← hWA]
    refine ⟨blk_alloc (blk_alloc (blk_new w _) _) _, blk_alloc ?_ _, ?_, below_alloc (below_alloc (below_alloc (Below.refl _ w) _) _) _, by simp; omega⟩
    · have := blk_new (w.alloc (.cells #[.int .i64 a0_0, .slice A0_1 l0_1.length c0_1] 24)) (.cells #[.slice A1 l1.length c1] 25)
      rwa [show (w.alloc (.cells #[.int .i64 a0_0, .slice A0_1 l0_1.length c0_1] 24)).heap.size = gL by rw [← hgL]; simp] at this
    · have := blk_new ((w.alloc (.cells #[.int .i64 a0_0, .slice A0_1 l0_1.length c0_1] 24)).alloc (.cells #[.slice A1 l1.length c1] 25)) (.cells #[.slice none 0 0, .slice none 0 0] 51)
      rwa [show ((w.alloc (.cells #[.int .i64 a0_0, .slice A0_1 l0_1.length c0_1] 24)).alloc (.cells #[.slice A1 l1.length c1] 25)).heap.size = gR by rw [← hgR]; simp] at this
  have hzB : ∀ {W : World}, Z W → Below w.heap.size w W := fun h => by rw [hZ] at h; exact h.2.2.2.1
  have hzR : ∀ {W : World}, Z W → W.heap[gR]? = some (.cells #[.slice none 0 0, .slice none 0 0] 51 (0, 0)) := fun h => by rw [hZ] at h; exact h.2.2.1
  have hzS : ∀ {W : World}, Z W → gR < W.heap.size := fun h => by rw [hZ] at h; exact h.2.2.2.2
  have hzC : ∀ {W : World}, Z W → W.heap[w.heap.size]? = some (.cells #[.int .i64 a0_0, .slice A0_1 l0_1.length c0_1] 24 (0, 0)) ∧ W.heap[gL]? = some (.cells #[.slice A1 l1.length c1] 25 (0, 0)) := fun h => by rw [hZ] at h; exact ⟨h.1, h.2.1⟩
  have hzb : ∀ {W W' : World}, Z W → Below W.heap.size W W' → Z W' := fun h hb => by
    rw [hZ] at h ⊢
    exact ⟨blk_below h.1 hb, blk_below h.2.1 hb, blk_below h.2.2.1 hb, below_step h.2.2.2.1 hb, Nat.lt_of_lt_of_le h.2.2.2.2 hb.size⟩
  have hzc : ∀ {W : World}, Z W → W.cell? ⟨w.heap.size, 0, none⟩ = some (.int .i64 a0_0) ∧ W.cell? ⟨w.heap.size, 1, none⟩ = some (.slice A0_1 l0_1.length c0_1) ∧ W.cell? ⟨gL, 0, none⟩ = some (.slice A1 l1.length c1) ∧ W.cell? ⟨gR, 0, none⟩ = some (.slice none 0 0) ∧ W.cell? ⟨gR, 1, none⟩ = some (.slice none 0 0) := fun h => by
    rw [hZ] at h
    exact ⟨blk_cell h.1 0, blk_cell h.1 1, blk_cell h.2.1 0, blk_cell h.2.2.1 0, blk_cell h.2.2.1 1⟩
  have HRC := K0 hr0_1; have HL := K0 hr1
  have HR := K0 (chain_Refutes.calls k a0_0 A0_1 c0_1 l0_1 A1 c1 l1 b1 b2 WA (Kd.C_below hr0_1 (hzB hZA)) hc0_1 (Kd.C_below hr1 (hzB hZA)) hc1 hb)
  have H := K0 h2; have HZA := K0 hZA; have HZE := K0 hZ; have HGL := K0 hgL
  have HGR := K0 (show gL + 1 = gR by omega)
  have HGS := K0 (show w.heap.size < gL ∧ gL < gR by omega)
  have HWA := K0 hWA
  obtain ⟨p0, p1, p2, p3, p4⟩ := hzc hZA
  clear hr0_1 hr1 hb h2 hZ hZA hgL hgR hWA
  go_enter Try.func22, Try.ntmps22
  clear p0 p1 p2 p3 p4
  go_upto_region 1 with fail
  rw [HGL.out, HGR.out, HWA.out]
  obtain ⟨p0, p1, p2, p3, p4⟩ := hzc HZA.out
  clear HWA
  go_wp2_with fail
  refine HR.out.mono ?_
  rintro e' w1 ⟨rfl, hb1⟩
  have HZ1 := K0 (hzb HZA.out hb1)
  clear p0 p1 p2 p3 p4 hb1 HR HZA
  obtain ⟨p0, p1, p2, p3, p4⟩ := hzc HZ1.out
  by_cases e0 : b2 = 0
  case neg =>
    have h := H.out
    rw [if_neg e0] at h
    simp only [Option.some.injEq, Prod.mk.injEq] at h
    clear H
    obtain ⟨rfl, rfl, rfl⟩ := h
    have c1' : (b2 != 0) = true := by simpa using e0
    have c2' : (b2 == 0) = false := by simpa using e0
    clear e0
    obtain ⟨⟨b0, z0⟩, ⟨b1_, z1⟩, b2_⟩ := put2_facts (hzR HZ1.out) (.slice none 0 0) (.slice none 0 0)
    have HB2 := K0 b2_
    have HBB := K0 (put2_below (hzB HZ1.out) (show w.heap.size ≤ gR by have := HGS.out; omega) (.slice none 0 0) (.slice none 0 0))
    clear b2_
    go_wp2
    refine bodyPost_ret (results_c2 rfl _ _ gR _ _ _ _ rfl HB2.out huN rfl (by kernel_rfl)) rfl ?_
    exact ⟨_, _, rfl, Kd.R_nil _ _ _ _ _, Kd.R_nil _ _ _ _ _, HBB.out⟩
  subst e0
  have h := H.out
  rw [if_pos rfl] at h
  clear H
  have HC := K0 (slices_IndexFunc_rows.calls 43 #[] (enters_of Try.func43 (by kernel_rfl) rfl) nilL A0_1 c0_1 l0_1 w1 (Kd.C_below HRC.out (hzB HZ1.out)) (fun W hbW y hy Ay cy hly hCy => (core_need_1.calls Ay cy y W hCy).mono (fun e W' hh => ⟨hh.1, hh.2 ▸ Below.refl _ _⟩)))
  obtain ⟨q1, hq1⟩ : ∃ q1, ixOf nilL l0_1 0 = q1 := ⟨_, rfl⟩
  rw [hq1] at HC h
  have H := K0 h; clear h hq1
  go_wp2_with fail
  refine HC.out.mono ?_
  rintro e' w3 ⟨rfl, hb3⟩
  have HZ3 := K0 (hzb HZ1.out hb3)
  clear p0 p1 p2 p3 p4 hb3 HC HZ1
  obtain ⟨p0, p1, p2, p3, p4⟩ := hzc HZ3.out
  by_cases hge : 0 ≤ q1
  case pos =>
    have h := H.out
    rw [if_pos hge] at h
    simp only [Option.some.injEq, Prod.mk.injEq] at h
    clear H
    obtain ⟨rfl, rfl, rfl⟩ := h
    have d : decide (0 ≤ q1) = true := decide_eq_true hge
    clear hge
    go_wp2_with ((with_reducible refine gate_dst (N := 29) rfl ?_); refine Kd.R_lit (Kd.int .i64) w.heap.size 3 ?hg (N := 29) ?hd (xs := ([q1] : List Int)) (inner := [.int .i64 q1]) (w0 := w) (ok := fun k => k ≠ gR) (okp := fun k => k ≠ gR) ?hr ?hp (fun _ hk => hk) (by have := hzS HZ3.out; omega) (hzB HZ3.out) (hzB HZ3.out).size (by simp) ?_; (case hd => rfl); (case hg => rfl); (case hr => first | (go_simp; done) | (go_simp; rfl)); (case hp => exact (Reps.one (show Kd.M (Kd.int .i64) _ _ _ q1 [.int .i64 q1] from rfl) (Reps.none _ _))); intro v5 w5 r5 hb5 hg5 hnew5; clear hnew5; obtain ⟨A5, k5, e5⟩ := Kd.R_slice r5; subst e5; have HR5 := K0 (show Kd.R (Kd.int .i64) 3 w5 w.heap.size (fun k => k ≠ gR) (.slice A5 1 k5) [q1] from r5); have HBB := K0 hb5; have HX := K0 (hzR (W := w3) HZ3.out); have HX5 := K0 (blk_grown HX.out hg5 (by simp)); obtain ⟨⟨b0, z0⟩, ⟨b1_, z1⟩, b2_⟩ := put2_facts HX5.out (.slice A5 1 k5) (.slice none 0 0); have HP5 := K0 b2_; clear b2_ hg5 r5 hb5)
    (try simp only [Exit.inBlock, Exit.then])
    refine bodyPost_ret (results_c2 rfl _ _ gR _ _ _ _ rfl HP5.out huN rfl (by kernel_rfl)) rfl ?_
    exact ⟨_, _, rfl, Kd.R_mono (Kd.R_step HR5.out (fun k hk _ => put2_far _ _ k hk)) (fun _ _ => trivial), Kd.R_nil _ _ _ _ _, put2_below HBB.out (show w.heap.size ≤ gR by have := HGS.out; omega) _ _⟩
  have h := H.out
  rw [if_neg hge] at h
  clear H
  split at h
  · rename_i hg2
    obtain ⟨s, hs, h2⟩ := Option.bind_eq_some_iff.1 h
    clear h
    simp only [Option.some.injEq, Prod.mk.injEq] at h2
    have d : decide (0 ≤ q1) = false := decide_eq_false hge
    have HS := K0 hs; have HG2 := K0 hg2; have HE3 := K0 h2; clear hge h2 hs hg2
    have hmm := @run_makeMap Try.prog
    obtain ⟨i0, hi0⟩ : ∃ i0 : Nat, ixOf endsE l1 0 = (i0 : Int) := ⟨(ixOf endsE l1 0).toNat, by have := HG2.out.1; omega⟩
    have HI0 := K0 hi0
    have hw64 : wrap64 ((l0_1.length : Int) + (i0 : Int)) = (l0_1.length : Int) + (i0 : Int) := by
      have h1 := HG2.out.2
      have h2 : i0 < l1.length := by
        rcases ixR endsE l1 0 with e | ⟨j, hj, e⟩
        · rw [show ((0 : Nat) : Int) = 0 from rfl] at e; omega
        · rw [show ((0 : Nat) : Int) = 0 from rfl] at e; omega
      unfold wrap64; omega
    rw [hi0] at HS
    clear hi0
    go_upto_region 10 with fail
    obtain ⟨W1, hW1⟩ : ∃ W1, w3.alloc (.map #[] 0) = W1 := ⟨_, rfl⟩
    obtain ⟨W2, hW2⟩ : ∃ W2, W1.alloc (.cells #[.map (some w3.heap.size)] 75) = W2 := ⟨_, rfl⟩
    obtain ⟨W3, hW3⟩ : ∃ W3, W2.alloc (.cells #[.func (.func 44) #[] #[.pointer (some ⟨w3.heap.size + 1, 0, none⟩), .pointer (some ⟨w.heap.size, 0, none⟩), .pointer (some ⟨gL, 0, none⟩), .pointer (some ⟨w3.heap.size + 1 + 1, 0, none⟩)]] 76) = W3 := ⟨_, rfl⟩
    rw [hW1, hW2, hW3]
    have z1 : W1.heap.size = w3.heap.size + 1 := by rw [← hW1]; simp
    have z2 : W2.heap.size = w3.heap.size + 1 + 1 := by rw [← hW2]; simp [z1]
    have b1_ : Below w3.heap.size w3 W1 := by rw [← hW1]; exact below_alloc (Below.refl _ _) _
    have b2_ : Below W1.heap.size W1 W2 := by rw [← hW2]; exact below_alloc (Below.refl _ _) _
    have b3_ : Below W2.heap.size W2 W3 := by rw [← hW3]; exact below_alloc (Below.refl _ _) _
    have b13 := below_step (below_step b1_ b2_) b3_
    have n1 := MapI.made w3 Try.prog 3
    rw [hW1] at n1
    have n2 := blk_new W1 (.cells #[.map (some w3.heap.size)] 75)
    rw [hW2, z1] at n2
    have n3 := blk_new W2 (.cells #[.func (.func 44) #[] #[.pointer (some ⟨w3.heap.size + 1, 0, none⟩), .pointer (some ⟨w.heap.size, 0, none⟩), .pointer (some ⟨gL, 0, none⟩), .pointer (some ⟨w3.heap.size + 1 + 1, 0, none⟩)]] 76)
    rw [hW3, z2] at n3
    have hz3 := hzC HZ3.out
    have hsz3 := hzS HZ3.out
    have hgs := HGS.out
    have dM0 : MkIn w W3 (w3.heap.size + 1) w.heap.size gL (w3.heap.size + 1 + 1) w3.heap.size a0_0 A0_1 c0_1 l0_1 A1 c1 l1 [] :=
      ⟨blk_below n2 b3_, blk_below hz3.1 b13, blk_below hz3.2 b13, n3, ((n1.block (b2_.block _ n1.lt)).block (b3_.block _ (by rw [z2]; omega))).congr (fun x => rfl), below_step (hzB HZ3.out) b13, (hzB HZ3.out).size, ⟨by omega, by omega, by omega, by omega⟩⟩
    have dM : MkIn w W3.drew (w3.heap.size + 1) w.heap.size gL (w3.heap.size + 1 + 1) w3.heap.size a0_0 A0_1 c0_1 l0_1 A1 c1 l1 [] := dM0.below (below_drew (Below.refl _ _))
    have hRr := blk_below (hzR HZ3.out) b13
    have HRR := K0 hRr
    have HGN := K0 (show gR ≠ w3.heap.size + 1 ∧ gR ≠ w3.heap.size + 1 + 1 ∧ gR ≠ w3.heap.size ∧ gR ≠ w.heap.size ∧ gR ≠ gL from ⟨by omega, by omega, by omega, by omega, by omega⟩)
    obtain ⟨gM, hgM⟩ : ∃ g, w3.heap.size + 1 = g := ⟨_, rfl⟩
    obtain ⟨gF, hgF⟩ : ∃ g, w3.heap.size + 1 + 1 = g := ⟨_, rfl⟩
    obtain ⟨bM, hbM⟩ : ∃ g, w3.heap.size = g := ⟨_, rfl⟩
    rw [hgF] at dM HGN ⊢
    rw [hgM] at dM HGN ⊢
    rw [hbM] at dM HGN
    clear hW1 hW2 hW3 z1 z2 b1_ b2_ b3_ b13 n1 n2 n3 hz3 hsz3 hgs dM0 hRr hmm p0 p1 p2 p3 p4 hgM hgF hbM
    have d0 : W3.cell? ⟨gF, 0, none⟩ = some (.func (.func 44) #[] #[.pointer (some ⟨gM, 0, none⟩), .pointer (some ⟨w.heap.size, 0, none⟩), .pointer (some ⟨gL, 0, none⟩), .pointer (some ⟨gF, 0, none⟩)]) := (blk_cell (w := W3.drew) dM.cF 0).trans rfl
    have d1 : W3.cell? ⟨w.heap.size, 1, none⟩ = some (.slice A0_1 l0_1.length c0_1) := (blk_cell (w := W3.drew) dM.cC 1).trans rfl
    have d2 : W3.cell? ⟨gL, 0, none⟩ = some (.slice A1 l1.length c1) := (blk_cell (w := W3.drew) dM.cL 0).trans rfl
    have HIX : Aside0 (∀ w', MkIn w w' gM w.heap.size gL gF bM a0_0 A0_1 c0_1 l0_1 A1 c1 l1 [] → Calls Try.prog 45 #[.slice A1 l1.length c1, .func (.func 46) #[] #[]] w' fun e w'' => e = .returned (.int .i64 (i0 : Int)) ∧ Below w'.heap.size w' w'') :=
      ⟨fun w' hw' => by
        rw [← HI0.out]
        exact slices_IndexFunc_chains.calls 46 #[] (enters_of Try.func46 (by kernel_rfl) rfl) endsE A1 c1 l1 w' (Kd.C_below HL.out hw'.bel) (fun W hbW y hy Ay0 cy0 Ay cy hly0 hCy0 hly hCy => core_need_3.calls y Ay0 cy0 Ay cy W hCy0)⟩
    have HMK : Aside0 (∀ w', MkIn w w' gM w.heap.size gL gF bM a0_0 A0_1 c0_1 l0_1 A1 c1 l1 [] → Calls Try.prog 44 #[.int .i64 ((l0_1.length : Int) + (i0 : Int)), .pointer (some ⟨gM, 0, none⟩), .pointer (some ⟨w.heap.size, 0, none⟩), .pointer (some ⟨gL, 0, none⟩), .pointer (some ⟨gF, 0, none⟩)] w' fun e w'' => e = .returned (.tuple #[]) ∧ MkIn w w'' gM w.heap.size gL gF bM a0_0 A0_1 c0_1 l0_1 A1 c1 l1 s ∧ w'.grownBy w'' (some bM)) :=
      ⟨fun w' hw' => core_mark.calls HL.out (by have := HG2.out.2; omega) gM w.heap.size gL gF bM k w' [] s _ hw' HS.out⟩
    clear HS HI0 HZ3
    refine start_ (n := 8) (S := fun w' => w'.cell? ⟨gF, 0, none⟩ = some (.func (.func 44) #[] #[.pointer (some ⟨gM, 0, none⟩), .pointer (some ⟨w.heap.size, 0, none⟩), .pointer (some ⟨gL, 0, none⟩), .pointer (some ⟨gF, 0, none⟩)]) ∧ w'.cell? ⟨w.heap.size, 1, none⟩ = some (.slice A0_1 l0_1.length c0_1) ∧ w'.cell? ⟨gL, 0, none⟩ = some (.slice A1 l1.length c1) ∧ MkIn w w' gM w.heap.size gL gF bM a0_0 A0_1 c0_1 l0_1 A1 c1 l1 [] ∧ w'.heap[gR]? = some (.cells #[.slice none 0 0, .slice none 0 0] 51 (0, 0))) (ds := [7]) #[false, false, false, false, false, false, false, false] (by kernel_rfl) rfl rfl ⟨d0, d1, d2, dM, HRR.out⟩ (fun hHeld => ?_)
    refine pure_ (i := 1) (N := some 34) (v := ?_) (a' := ?_) #[false, true, false, false, false, false, false, false] rfl rfl (by kernel_rfl) (fun _ _ _ h => h) (Or.inl ⟨by rfl, ?_⟩) ?_ ?_
    rotate_left
    · intro w'
      go_simp
      with_reducible rfl
    rotate_left
    · simp only [Act.put, List.setIfInBounds_toArray, List.set_cons_zero, List.set_cons_succ, i64_w, i32_w]
      rfl
    refine take_ (i := 0) (N := some 33) (v := ?_) (a' := ?_) #[true, true, false, false, false, false, false, false] rfl rfl (by kernel_rfl) (fun _ _ _ h => h) (Or.inl ⟨by rfl, ?_⟩) hHeld ?_ ?_
    rotate_left
    · rintro w' ⟨s0, s1, s2, s3, s4⟩
      go_simp
      with_reducible rfl
    rotate_left
    · simp only [Act.put, List.setIfInBounds_toArray, List.set_cons_zero, List.set_cons_succ, i64_w, i32_w]
      rfl
    refine take_ (i := 2) (N := some 35) (v := ?_) (a' := ?_) #[true, true, true, false, false, false, false, false] rfl rfl (by kernel_rfl) (fun _ _ _ h => h) (Or.inl ⟨by rfl, ?_⟩) hHeld ?_ ?_
    rotate_left
    · rintro w' ⟨s0, s1, s2, s3, s4⟩
      go_simp
      with_reducible rfl
    rotate_left
    · simp only [Act.put, List.setIfInBounds_toArray, List.set_cons_zero, List.set_cons_succ, i64_w, i32_w]
      rfl
    refine pure_ (i := 3) (N := some 36) (v := ?_) (a' := ?_) #[true, true, true, true, false, false, false, false] rfl rfl (by kernel_rfl) (fun _ _ _ h => h) (Or.inl ⟨by rfl, ?_⟩) ?_ ?_
    rotate_left
    · intro w'
      go_simp
      with_reducible rfl
    rotate_left
    · simp only [Act.put, List.setIfInBounds_toArray, List.set_cons_zero, List.set_cons_succ, i64_w, i32_w]
      rfl
    refine take_ (i := 4) (N := some 37) (v := ?_) (a' := ?_) #[true, true, true, true, true, false, false, false] rfl rfl (by kernel_rfl) (fun _ _ _ h => h) (Or.inl ⟨by rfl, ?_⟩) hHeld ?_ ?_
    rotate_left
    · rintro w' ⟨s0, s1, s2, s3, s4⟩
      go_simp
      with_reducible rfl
    rotate_left
    · simp only [Act.put, List.setIfInBounds_toArray, List.set_cons_zero, List.set_cons_succ, i64_w, i32_w]
      rfl
    refine one_ (i := 5) (N := some 38) #[true, true, true, true, true, true, false, false] rfl rfl (by kernel_rfl) (by decide) (fun K hK => ?_)
    refine goes_ Try.func45 (by kernel_rfl) rfl #[.slice A1 l1.length c1, .func (.func 46) #[] #[]] (by rfl) rfl rfl (by simp only [List.map_toArray, List.map_cons, List.map_nil]; rfl) ?_
    with_reducible refine (HIX.out _ hHeld.2.2.2.1).mono ?_
    rintro e' w5 ⟨rfl, hb5⟩
    refine ⟨_, rfl, ?_⟩
    refine hK.out _ _ ⟨pw_cell_below hb5 hHeld.1, pw_cell_below hb5 hHeld.2.1, pw_cell_below hb5 hHeld.2.2.1, hHeld.2.2.2.1.below hb5, blk_below hHeld.2.2.2.2 hb5⟩ (fun hHeld => ?_)
    clear hK K
    refine norm_ (a' := ?_) ?_ ?_
    rotate_left
    · show Act.put _ (some 38) _ = _
      simp only [Act.put, List.setIfInBounds_toArray, List.set_cons_zero, List.set_cons_succ, i64_w, i32_w]
      rfl
    refine pure_ (i := 6) (N := some 39) (v := ?_) (a' := ?_) #[true, true, true, true, true, true, true, false] rfl rfl (by kernel_rfl) (fun _ _ _ h => h) (Or.inl ⟨by rfl, ?_⟩) ?_ ?_
    rotate_left
    · intro w'
      go_simp
      with_reducible rfl
    rotate_left
    · simp only [Act.put, List.setIfInBounds_toArray, List.set_cons_zero, List.set_cons_succ, i64_w, i32_w]
      rfl
    refine last_ (i := 7) (N := some 40) #[true, true, true, true, true, true, true, true] rfl rfl (by kernel_rfl) (by decide) (fun K hK => ?_)
    refine call_ 44 #[.int .i64 ((l0_1.length : Int) + (i0 : Int)), .pointer (some ⟨gM, 0, none⟩), .pointer (some ⟨w.heap.size, 0, none⟩), .pointer (some ⟨gL, 0, none⟩), .pointer (some ⟨gF, 0, none⟩)] (by rfl) rfl (by have eg := enters_of Try.func44 (by kernel_rfl) rfl; unfold Enters at eg; unfold execOp; simp [resolve, Deferred.ofValue, invoke, Act.eval, Act.put, eg, hw64]) ?_
    with_reducible refine (HMK.out _ hHeld.2.2.2.1).mono ?_
    rintro e' w6 ⟨rfl, h6, g6⟩
    refine ⟨_, rfl, ?_⟩
    have HL6 := K0 h6
    have HR6 := K0 (blk_grown hHeld.2.2.2.2 g6 (by have := HGN.out; simpa using this.2.2.1))
    clear h6 g6
    refine hK.out _ _ ?_
    clear hK K
    refine norm_ (a' := ?_) ?_ ?_
    rotate_left
    · show Act.put _ (some 40) _ = _
      simp only [Act.put, List.setIfInBounds_toArray, List.set_cons_zero, List.set_cons_succ, i64_w, i32_w]
      rfl
    refine done_ (by kernel_rfl) ?_
    have HW7 := K0 (show OutIn w (w6.alloc (.cells #[.slice none 0 0, .slice none 0 0] 51)) gM w.heap.size gL gF bM gR w6.heap.size a0_0 A0_1 c0_1 l0_1 A1 c1 l1 s (.slice none 0 0) (.slice none 0 0) [] [] from
      ⟨HL6.out.below (below_alloc (Below.refl _ _) _), blk_new w6 _, blk_alloc HR6.out _, Kd.R_nil _ _ _ _ _, Kd.R_nil _ _ _ _ _, ⟨Nat.ne_of_lt (blk_lt HL6.out.cM), Nat.ne_of_lt (blk_lt HL6.out.cC), Nat.ne_of_lt (blk_lt HL6.out.cL), Nat.ne_of_lt (blk_lt HL6.out.cF), Nat.ne_of_lt HL6.out.mp.lt, HL6.out.bel.size⟩, Nat.ne_of_lt (blk_lt HR6.out)⟩)
    clear HIX HMK hw64 HL6 HR6 HRR d0 d1 d2 dM
    go_upto_region 12 with fail
    obtain ⟨W7, hW7⟩ : ∃ W7, w6.alloc (.cells #[.slice none 0 0, .slice none 0 0] 51) = W7 := ⟨_, rfl⟩
    obtain ⟨gO, hgO⟩ : ∃ g, w6.heap.size = g := ⟨_, rfl⟩
    rw [hW7, hgO] at HW7
    rw [hW7, hgO]
    clear hW7 hgO
    obtain ⟨N, hN⟩ : ∃ N, l0_1.length + l1.length = N := ⟨_, rfl⟩
    have hwN : wrap64 ((l0_1.length : Int) + (l1.length : Int)) = (N : Int) := by
      have := HG2.out.2
      unfold wrap64; omega
    have d1 : W7.cell? ⟨w.heap.size, 1, none⟩ = some (.slice A0_1 l0_1.length c0_1) := (blk_cell HW7.out.mi.cC 1).trans rfl
    have d2 : W7.cell? ⟨gL, 0, none⟩ = some (.slice A1 l1.length c1) := (blk_cell HW7.out.mi.cL 0).trans rfl
    have HNB := K0 (show N < 1099511627776 by have := HG2.out.2; omega)
    have HNN := K0 hN
    have HL0 := K0 (show l0_1.length < 1099511627776 by have := HG2.out.2; omega)
    clear hN
    go_wp2
    rw [hwN]
    clear d1 d2 hwN
    go_loopg [12, 47, 60, 65] N (fun gg v12 v47 v60 v65 wr => ∃ (j : Nat) (vC vK : Value), v47 = .int .i64 (j : Int) ∧ Aside0 (j + gg = N) ∧ Aside0 (OutIn w wr gM w.heap.size gL gF bM gR gO a0_0 A0_1 c0_1 l0_1 A1 c1 l1 s vC vK (nums25 (fun v => decide ((v : Int) ∈ s)) (min j l0_1.length)) (nums25 (fun i => decide (((l0_1.length + i : Nat) : Int) ∈ s)) (j - l0_1.length))))
    case atStart => exact ⟨0, _, _, rfl, ⟨by simp⟩, ⟨by have := HW7.out; simpa [nums25] using this⟩⟩
    case round =>
      clear HW7
      obtain ⟨j, vC, vK, rfl, hg, HO⟩ := hrel
      obtain ⟨xs, hxs⟩ : ∃ xs, nums25 (fun v => decide ((v : Int) ∈ s)) (min j l0_1.length) = xs := ⟨_, rfl⟩
      obtain ⟨ys, hys⟩ : ∃ ys, nums25 (fun i => decide (((l0_1.length + i : Nat) : Int) ∈ s)) (j - l0_1.length) = ys := ⟨_, rfl⟩
      have HXS := K0 hxs; have HYS := K0 hys
      rw [hxs, hys] at HO
      by_cases hlt : j < N
      case neg =>
        have hd : decide ((j : Int) < (N : Int)) = false := decide_eq_false (by omega)
        have Q2 : (j < N) = False := eq_false hlt
        have hjN : j = N := by have := hg.out; omega
        have e1 : min j l0_1.length = l0_1.length := by have := HNN.out; omega
        have e2 : j - l0_1.length = l1.length := by have := HNN.out; omega
        have HE := HE3.out
        rw [e1] at hxs
        rw [e2] at hys
        rw [hxs, hys] at HE
        obtain ⟨rfl, rfl, rfl⟩ := HE
        clear hjN e1 e2 hxs hys HXS HYS HE3
        obtain ⟨A5, k5, e5⟩ := Kd.R_slice HO.out.c
        obtain ⟨A6, k6, e6⟩ := Kd.R_slice HO.out.k
        subst e5 e6
        have c4 : wr.cell? ⟨gO, 0, none⟩ = some (.slice A5 xs.length k5) := (blk_cell HO.out.cO 0).trans rfl
        have c5 : wr.cell? ⟨gO, 1, none⟩ = some (.slice A6 ys.length k6) := (blk_cell HO.out.cO 1).trans rfl
        obtain ⟨⟨b0, z0⟩, ⟨b1_, z1⟩, b2_⟩ := put2_facts HO.out.cR (.slice A5 xs.length k5) (.slice A6 ys.length k6)
        have HP5 := K0 b2_; clear b2_
        go_wp2
        refine bodyPost_ret (results_c2 rfl _ _ gR _ _ _ _ rfl HP5.out huN rfl (by kernel_rfl)) rfl ?_
        exact ⟨_, _, rfl, Kd.R_mono (Kd.R_step HO.out.c (fun k hk _ => put2_far _ _ k hk.1.2.2.2.2.2.1)) (fun _ _ => trivial), Kd.R_mono (Kd.R_step HO.out.k (fun k hk _ => put2_far _ _ k hk.1.2.2.2.2.2.1)) (fun _ _ => trivial), put2_below HO.out.mi.bel (show w.heap.size ≤ gR by have := HGS.out; omega) _ _⟩
      have hd : decide ((j : Int) < (N : Int)) = true := decide_eq_true (by omega)
      have hbj := HNB.out
      have HWF := K0 (wf25 (show j < 9223372036854775808 by omega))
      have c1' : wr.cell? ⟨gM, 0, none⟩ = some (.map (some bM)) := (blk_cell HO.out.mi.cM 0).trans rfl
      have q := HO.out.mi.look HWF.out
      have hstep := nums25_step s l0_1.length j
      rw [hxs, hys] at hstep
      clear hxs hys
      have hbN : N ≤ 9223372036854775807 := by omega
      have Q1 : ((j : Int) < (N : Int)) = True := eq_true (by omega)
      have Q2 : (j < N) = True := eq_true hlt
      by_cases hm : (j : Int) ∈ s
      case neg =>
        rw [decide_eq_false hm] at q
        have HEQ := K0 (hstep.1 hm)
        clear hstep hm
        go_wp2
        clear c1' q
        go_roundg (N - (j + 1))
        case measure => have := hg.out; omega
        case rel => exact ⟨j + 1, _, _, by simp, ⟨by have := hg.out; omega⟩, ⟨by rw [HEQ.out.1, HEQ.out.2]; exact HO.out⟩⟩
      rw [decide_eq_true hm] at q
      have c2' : wr.cell? ⟨w.heap.size, 1, none⟩ = some (.slice A0_1 l0_1.length c0_1) := (blk_cell HO.out.mi.cC 1).trans rfl
      by_cases hj : j < l0_1.length
      case pos =>
        have dj : decide ((j : Int) < (l0_1.length : Int)) = true := decide_eq_true (by omega)
        have R1 : ((j : Int) < (l0_1.length : Int)) = True := eq_true (by omega)
        have R2 : (j < l0_1.length) = True := eq_true hj
        have he := hstep.2.1 hm hj
        have HEQ := K0 he
        have c4 : wr.cell? ⟨gO, 0, none⟩ = some vC := (blk_cell HO.out.cO 0).trans rfl
        have HLN := K0 (show ((xs).length + 1) * 8 ≤ 140737488355328 by have := nums25_le (fun v => decide ((v : Int) ∈ s)) (min j l0_1.length); have := nums25_le (fun i => decide (((l0_1.length + i : Nat) : Int) ∈ s)) (j - l0_1.length); have h1 := congrArg List.length HXS.out; have h2 := congrArg List.length HYS.out; omega)
        clear hstep hm hj he
        go_wp2_with ((with_reducible refine gate_builtin (b := .append) (xs := #[.tmp 72, .tmp 74]) rfl ?_); at_builtin; refine Kd.R_append (Kd.int .i64) (w0 := w) (W := wr) w.heap.size rfl (.tmp 72) (.tmp 74) 29 3 (.int .i64 0) 8 rfl Try.underlying29 (by kernel_rfl) rfl (by decide) (by decide) vC xs (j : Int) [.int .i64 (j : Int)] (fun k => (okN gM w.heap.size gL gF bM gR gO k ∧ some k ≠ vK.ownBlock) ∨ wr.heap.size ≤ k) (fun _ => False) rfl rfl rfl (fun _ h => h.elim) (fun k hk => .inr hk) (Kd.R_mono HO.out.c (fun _ hk => .inl hk)) HO.out.mi.bel (below_size HO.out.mi.bel) HLN.out ?_; intro v5 w5 r5 hb5 hg5 hat5; obtain ⟨A5, k5, e5⟩ := Kd.R_slice r5; subst e5; have HO5 := K0 (HO.out.addC r5 hg5 hat5); have c5 : w5.cell? ⟨gO, 0, none⟩ = some vC := (blk_cell (blk_grown HO.out.cO hg5 (fun e => (HO.out.c.1 gO e.symm).1.2.2.2.2.2.2 rfl)) 0).trans rfl; have f5 : w5.frozen? ⟨gO, 0, none⟩ = false := blk_frozen (blk_grown HO.out.cO hg5 (fun e => (HO.out.c.1 gO e.symm).1.2.2.2.2.2.2 rfl)) 0; clear r5 hb5 hg5 hat5)
        clear c1' c2' c4 q
        go_wp2
        go_roundg (N - (j + 1))
        case measure => have := hg.out; omega
        case rel => exact ⟨j + 1, _, _, by simp, ⟨by have := hg.out; omega⟩, ⟨by rw [HEQ.out.1, HEQ.out.2]; have := HO5.out; simp only [List.length_append, List.length_singleton] at this ⊢; exact this⟩⟩
      have dj : decide ((j : Int) < (l0_1.length : Int)) = false := decide_eq_false (by omega)
      have R1 : ((j : Int) < (l0_1.length : Int)) = False := eq_false (by omega)
      have R2 : (j < l0_1.length) = False := eq_false hj
      have hw : ((j : Int) - (l0_1.length : Int)) = ((j - l0_1.length : Nat) : Int) := by omega
      have HW56 := K0 hw; clear hw
      have he := hstep.2.2 hm (by omega)
      have HEQ := K0 he
      have c4 : wr.cell? ⟨gO, 1, none⟩ = some vK := (blk_cell HO.out.cO 1).trans rfl
      have HLN := K0 (show ((ys).length + 1) * 8 ≤ 140737488355328 by have := nums25_le (fun v => decide ((v : Int) ∈ s)) (min j l0_1.length); have := nums25_le (fun i => decide (((l0_1.length + i : Nat) : Int) ∈ s)) (j - l0_1.length); have h1 := congrArg List.length HXS.out; have h2 := congrArg List.length HYS.out; omega)
      clear hstep hm hj he
      go_wp2_with ((with_reducible refine gate_builtin (b := .append) (xs := #[.tmp 51, .tmp 57]) rfl ?_); at_builtin; refine Kd.R_append (Kd.int .i64) (w0 := w) (W := wr) w.heap.size rfl (.tmp 51) (.tmp 57) 29 3 (.int .i64 0) 8 rfl Try.underlying29 (by kernel_rfl) rfl (by decide) (by decide) vK ys ((j : Int) - (l0_1.length : Int)) [.int .i64 ((j : Int) - (l0_1.length : Int))] (fun k => (okN gM w.heap.size gL gF bM gR gO k ∧ some k ≠ vC.ownBlock) ∨ wr.heap.size ≤ k) (fun _ => False) rfl rfl rfl (fun _ h => h.elim) (fun k hk => .inr hk) (Kd.R_mono HO.out.k (fun _ hk => .inl hk)) HO.out.mi.bel (below_size HO.out.mi.bel) HLN.out ?_; intro v5 w5 r5 hb5 hg5 hat5; obtain ⟨A5, k5, e5⟩ := Kd.R_slice r5; subst e5; have HO5 := K0 (HO.out.addK (zs := ys ++ [((j - l0_1.length : Nat) : Int)]) (by rw [← HW56.out]; exact r5) hg5 hat5); have c5 : w5.cell? ⟨gO, 1, none⟩ = some vK := (blk_cell (blk_grown HO.out.cO hg5 (fun e => (HO.out.k.1 gO e.symm).1.2.2.2.2.2.2 rfl)) 1).trans rfl; have f5 : w5.frozen? ⟨gO, 1, none⟩ = false := blk_frozen (blk_grown HO.out.cO hg5 (fun e => (HO.out.k.1 gO e.symm).1.2.2.2.2.2.2 rfl)) 1; clear r5 hb5 hg5 hat5)
      clear c1' c2' c4 q
      go_wp2
      go_roundg (N - (j + 1))
      case measure => have := hg.out; omega
      case rel => exact ⟨j + 1, _, _, by simp, ⟨by have := hg.out; omega⟩, ⟨by rw [HEQ.out.1, HEQ.out.2]; have := HO5.out; simp only [List.length_append, List.length_singleton] at this ⊢; exact this⟩⟩
  cases h
def core_Used.f (k : Nat) (a0_0 : Int) (l0_1 : List (List Int)) (l1 : List (S48)) : Option (List Int × Int) := (core_need.f k a0_0 l0_1 l1).bind fun bt217 => (some (bt217.1, bt217.2.2))
set_option maxHeartbeats 8000000 in
set_option maxRecDepth 100000 in
theorem core_Used.calls (k : Nat) (a0_0 : Int) (A0_1 : Option Addr) (c0_1 : Nat) (l0_1 : List (List Int)) (A1 : Option Addr) (c1 : Nat) (l1 : List (S48)) (r1 : List Int) (r2 : Int) (w : World) (hr0_1 : Kd.C (Kd.slice 3 (Kd.int .i64)) w A0_1 l0_1.length l0_1) (hc0_1 : l0_1.length ≤ c0_1) (hr1 : Kd.C k48 w A1 l1.length l1) (hc1 : l1.length ≤ c1) (h : core_Used.f k a0_0 l0_1 l1 = some (r1, r2)) :
    Calls Try.prog 9 #[.agg #[.int .i64 a0_0, .slice A0_1 l0_1.length c0_1], .slice A1 l1.length c1] w fun e w' => ∃ v0_ : Value, e = .returned (.tuple #[v0_, .int .i64 r2]) ∧ Kd.R (Kd.int .i64) 3 w' w.heap.size (fun _ => True) v0_ r1 ∧ Below w.heap.size w w' := by
  have hu24 := Try.underlying24
  have hu51 := Try.underlying51
  have HR0_1 := K0 hr0_1
  have HC0_1 := K0 hc0_1
  clear hr0_1 hc0_1
  have HR1 := K0 hr1
  have HC1 := K0 hc1
  clear hr1 hc1
  have HB := K0 (Below.refl w.heap.size w)
  have H : ((core_need.f k a0_0 l0_1 l1).bind fun bt217 => (some (bt217.1, bt217.2.2))) = some (r1, r2) := h
  clear h
  replace H := Option.bind_eq_some_iff.mp H
  obtain ⟨⟨t217, t220, t223⟩, A30, H⟩ := H
  replace H : (some (t217, t223)) = some (r1, r2) := H
  have A3 := K0 A30
  clear A30
  as_aux_lemma =>
    simp only [Option.some.injEq, Prod.mk.injEq] at H
    obtain ⟨rfl, rfl⟩ := H
    go_enter Try.func9, Try.ntmps9
    go_wp2_with (first | ((with_reducible refine gate_dst (N := 2) rfl ?_); refine box_event ?hg (N := 2) ?hd (cs := #[.int .i64 a0_0, .slice A0_1 l0_1.length c0_1]) (t := 24) ?hr ?_; (case hd => rfl); (case hg => rfl); (case hr => first | (go_simp; done) | (go_simp; rfl)); intro gb216 hg w4 hbox hb; have n0_ := K0 (below_step (by repeat (first | (with_reducible first | exact HB.out | apply below_alloc | apply pw_below_drewN | apply below_drew1) | exact HB.out)) hb); have n1_ := K0 (hbox); have n2_ := K0 ((by rw [hg]; exact (below_size (by repeat (first | (with_reducible first | exact HB.out | apply below_alloc | apply pw_below_drewN | apply below_drew1) | exact HB.out))) : w.heap.size ≤ gb216)); have n3_ := K0 ((by rw [hg]; exact (below_size (by repeat (first | (with_reducible first | exact HB.out | apply below_alloc | apply pw_below_drewN | apply below_drew1) | exact HB.out))) : w.heap.size ≤ gb216)); clear HB; have HB := n0_; have BK216 := n1_; have GW216 := n2_; have GE216 := n3_; clear n0_ n1_ n2_ n3_; clear hb hbox hg; have hcz5_0 : w4.cell? ⟨gb216, 0, none⟩ = some (.int .i64 a0_0) := (blk_cell BK216.out 0).trans rfl; have hcz5_1 : w4.cell? ⟨gb216, 1, none⟩ = some (.slice A0_1 l0_1.length c0_1) := (blk_cell BK216.out 1).trans rfl; have hfz5_0 := blk_frozen BK216.out 0; have hfz5_1 := blk_frozen BK216.out 1) | ((with_reducible refine gate_callee (f := 22) rfl ?_); refine goesL_ (some 11) rfl rfl Try.func22 (by kernel_rfl) rfl #[.agg #[.int .i64 a0_0, .slice A0_1 l0_1.length c0_1], .slice A1 l1.length c1] rfl (by (try simp only [List.map_toArray, List.map_cons, List.map_nil]); first | done | rfl | (simp only [List.length_drop, List.length_take]; rfl)) ?_; (with_reducible refine (core_need.calls k a0_0 _ _ l0_1 _ _ l1 t217 t220 t223 _ ?side1 ?side2 ?side3 ?side4 A3.out).mono ?_); (case side1 => repeat (first | exact (Kd.C_below HR0_1.out HB.out) | (with_reducible refine Kd.C_alloc ?_ _) | (with_reducible refine Kd.C_drewN ?_ _) | (with_reducible refine Kd.C_drew ?_))); (case side2 => exact HC0_1.out); (case side3 => repeat (first | exact (Kd.C_below HR1.out HB.out) | (with_reducible refine Kd.C_alloc ?_ _) | (with_reducible refine Kd.C_drewN ?_ _) | (with_reducible refine Kd.C_drew ?_))); (case side4 => exact HC1.out); rintro e w6 ⟨v218, v221, rfl, ho0, ho1, hb⟩; refine ⟨_, rfl, ?_⟩; have n0_ := K0 (Kd.R_lower ho0 (below_size (by repeat (first | (with_reducible first | exact HB.out | apply below_alloc | apply pw_below_drewN | apply below_drew1 | refine below_set ?_ GE216.out) | exact HB.out)))); have n1_ := K0 (Kd.R_lower ho1 (below_size (by repeat (first | (with_reducible first | exact HB.out | apply below_alloc | apply pw_below_drewN | apply below_drew1 | refine below_set ?_ GE216.out) | exact HB.out)))); have n2_ := K0 (blk_below (g := gb216) (o := .cells #[.int .i64 a0_0, .slice A0_1 l0_1.length c0_1] 24 (0, 0)) (by (with_reducible repeat (first | refine blk_drewN ?_ _ | refine blk_drew ?_ | refine blk_alloc ?_ _)); exact BK216.out) hb); have n3_ := K0 (below_step (by repeat (first | (with_reducible first | exact HB.out | apply below_alloc | apply pw_below_drewN | apply below_drew1 | refine below_set ?_ GE216.out) | exact HB.out)) hb); clear BK216; clear HB; have HO219 := n0_; have HO222 := n1_; have BK216 := n2_; have HB := n3_; clear n0_ n1_ n2_ n3_; (try clear hb); (try clear hb2); (try clear hk); (try clear hi); (try clear ho0); (try clear ho1)) | ((with_reducible refine gate_dst (N := 6) rfl ?_); refine box_event ?hg (N := 6) ?hd (cs := #[.slice none 0 0, .slice none 0 0]) (t := 51) ?hr ?_; (case hd => rfl); (case hg => rfl); (case hr => first | (go_simp; done) | (go_simp; rfl)); intro gb224 hg w7 hbox hb; have n0_ := K0 (Kd.R_below (by (with_reducible repeat (first | apply Kd.R_alloc | apply Kd.R_drewN | apply Kd.R_drew)); exact HO219.out) hb); have n1_ := K0 (Kd.R_below (by (with_reducible repeat (first | apply Kd.R_alloc | apply Kd.R_drewN | apply Kd.R_drew)); exact HO222.out) hb); have n2_ := K0 (blk_below (g := gb216) (o := .cells #[.int .i64 a0_0, .slice A0_1 l0_1.length c0_1] 24 (0, 0)) (by (with_reducible repeat (first | refine blk_drewN ?_ _ | refine blk_drew ?_ | refine blk_alloc ?_ _)); exact BK216.out) hb); have n3_ := K0 (below_step (by repeat (first | (with_reducible first | exact HB.out | apply below_alloc | apply pw_below_drewN | apply below_drew1 | refine below_set ?_ GE216.out) | exact HB.out)) hb); have n4_ := K0 (hbox); have n5_ := K0 ((by rw [hg]; exact (below_size (by repeat (first | (with_reducible first | exact HB.out | apply below_alloc | apply pw_below_drewN | apply below_drew1 | refine below_set ?_ GE216.out) | exact HB.out))) : w.heap.size ≤ gb224)); have n6_ := K0 ((by rw [hg]; exact (below_size (by repeat (first | (with_reducible first | exact HB.out | apply below_alloc | apply pw_below_drewN | apply below_drew1 | refine below_set ?_ GE216.out) | exact HB.out))) : w.heap.size ≤ gb224)); have n7_ := K0 ((by rw [hg]; exact Nat.ne_of_lt (blk_lt (g := gb216) (o := .cells #[.int .i64 a0_0, .slice A0_1 l0_1.length c0_1] 24 (0, 0)) (by (with_reducible repeat (first | refine blk_drewN ?_ _ | refine blk_drew ?_ | refine blk_alloc ?_ _)); exact BK216.out)) : gb216 ≠ gb224)); have n8_ := K0 ((by rw [hg]; exact Nat.ne_of_gt (blk_lt (g := gb216) (o := .cells #[.int .i64 a0_0, .slice A0_1 l0_1.length c0_1] 24 (0, 0)) (by (with_reducible repeat (first | refine blk_drewN ?_ _ | refine blk_drew ?_ | refine blk_alloc ?_ _)); exact BK216.out)) : gb224 ≠ gb216)); clear HO219; clear HO222; clear BK216; clear HB; have HO219 := n0_; have HO222 := n1_; have BK216 := n2_; have HB := n3_; have BK224 := n4_; have GW224 := n5_; have GE224 := n6_; have NB216_224 := n7_; have NB224_216 := n8_; clear n0_ n1_ n2_ n3_ n4_ n5_ n6_ n7_ n8_; clear hb hbox hg; obtain ⟨Ao8, co8, eo8⟩ := Kd.R_slice HO219.out; subst eo8; have hnb9 := NB224_216.out; have hnc9 := NB216_224.out; have hcz10_0 : w7.cell? ⟨gb224, 0, none⟩ = some (.slice none 0 0) := (blk_cell BK224.out 0).trans rfl; have hcz10_1 : w7.cell? ⟨gb224, 1, none⟩ = some (.slice none 0 0) := (blk_cell BK224.out 1).trans rfl; have hfz10_0 := blk_frozen BK224.out 0; have hfz10_1 := blk_frozen BK224.out 1; obtain ⟨Ao11, co11, eo11⟩ := Kd.R_slice HO222.out; subst eo11))
    go_ret2
    exact ⟨_, by first | rfl | (simp [errW_none, errW_some] <;> rfl) | (simp [*, errW_none, errW_some] <;> rfl), by (with_reducible repeat (first | apply Kd.R_alloc | apply Kd.R_drewN | apply Kd.R_drew)); exact Kd.R_mono (Kd.R_far (p := ⟨gb224, 1, none⟩) (Kd.R_far (p := ⟨gb224, 0, none⟩) (Kd.R_types HO219.out BK224.out (by decide)) (fun _ hk => hk.2) (.slice Ao8 t217.length co8)) (fun _ hk => hk.2) (.slice Ao11 t220.length co11)) (fun _ hk => trivial), by repeat (first | (with_reducible first | exact HB.out | apply below_alloc | apply pw_below_drewN | apply below_drew1 | refine below_set ?_ GE216.out | refine below_set ?_ GE224.out) | exact HB.out)⟩
def core_Trim.f (k : Nat) (a0_0 : Int) (l0_1 : List (List Int)) (l1 : List S48) : Option (List S48 × Int) :=
  (core_need.f k a0_0 l0_1 l1).bind fun r => if r.2.2 = 0 then (if fit25 l0_1.length l1 r.2.1 then some (numP l1 (byP (l0_1.length : Int) (l0_1.length : Int) r.2.1 0 (idTo l0_1.length)) r.2.1, 0) else none) else some ([], r.2.2)
theorem idTo_set (j : Nat) (y : Int) : setI (mapV (idTo j)) (j : Int) (some (.int .i64 (j : Int))) y = mapV (idTo (j + 1)) y := by
  unfold setI mapV idTo
  by_cases e : y = (j : Int)
  · rw [if_pos e, if_pos (by omega), e]; rfl
  · rw [if_neg e]
    by_cases h : 0 ≤ y ∧ y < (j : Int)
    · rw [if_pos h, if_pos (by omega)]
    · rw [if_neg h, if_neg (by omega)]
theorem idTo_keys (j : Nat) (x : Int) (h : (mapV (idTo j) x).isSome = true) : x ∈ (List.range j).map (fun v : Nat => (v : Int)) := by
  unfold mapV idTo at h
  by_cases e : 0 ≤ x ∧ x < (j : Int)
  · exact List.mem_map.2 ⟨x.toNat, List.mem_range.2 (by omega), by omega⟩
  · rw [if_neg e] at h; cases h
set_option maxRecDepth 100000 in
set_option maxHeartbeats 4000000 in
theorem core_Trim.calls (k : Nat) (a0_0 : Int) (A0_1 : Option Addr) (c0_1 : Nat) (l0_1 : List (List Int)) (A1 : Option Addr) (c1 : Nat) (l1 : List S48) (r1 : List S48) (r2 : Int) (w : World)
    (hr0_1 : Kd.C (Kd.slice 3 (Kd.int .i64)) w A0_1 l0_1.length l0_1) (hc0_1 : l0_1.length ≤ c0_1) (hr1 : Kd.C k48 w A1 l1.length l1) (hc1 : l1.length ≤ c1) (h : core_Trim.f k a0_0 l0_1 l1 = some (r1, r2)) :
    Calls Try.prog 12 #[.agg #[.int .i64 a0_0, .slice A0_1 l0_1.length c0_1], .slice A1 l1.length c1] w fun e w' => ∃ v0_ : Value, e = .returned (.tuple #[v0_, .int .i64 r2]) ∧ Kd.N k48 48 w' w.heap.size (fun k_ => (w.heap.size ≤ k_)) v0_ r1 ∧ Below w.heap.size w w' := by
  unfold core_Trim.f at h
  obtain ⟨⟨b1, b2, b3⟩, hb, h2⟩ := Option.bind_eq_some_iff.mp h
  clear h
  dsimp only at h2
  have hbig := hr1.2.1
  have hbig0 := hr0_1.2.1
  have huC := Try.underlying24
  have huN := Try.underlying51
  obtain ⟨WA, hWA⟩ : ∃ WA : World, w.alloc (.cells #[.int .i64 a0_0, .slice A0_1 l0_1.length c0_1] 24) = WA := ⟨_, rfl⟩
  have hbA : Below w.heap.size w WA := by rw [← hWA]; exact below_alloc (Below.refl _ _) _
  have nA := blk_new w (.cells #[.int .i64 a0_0, .slice A0_1 l0_1.length c0_1] 24)
  rw [hWA] at nA
  have HR := K0 (core_need.calls k a0_0 A0_1 c0_1 l0_1 A1 c1 l1 b1 b2 b3 WA (Kd.C_below hr0_1 hbA) hc0_1 (Kd.C_below hr1 hbA) hc1 hb)
  have H := K0 h2
  have HC := K0 hr0_1
  have HL := K0 hr1
  have HBA := K0 hbA
  have HNA := K0 nA
  have HWA := K0 hWA
  obtain ⟨g, hg⟩ : ∃ g, w.heap.size = g := ⟨_, rfl⟩
  rw [hg] at HNA
  have HG := K0 hg
  clear hr0_1 hr1 hb h2 hWA hbA nA hg
  go_enter Try.func12, Try.ntmps12
  go_upto_region 1 with fail
  rw [HWA.out, HG.out]
  clear HWA
  have p0 : WA.cell? ⟨g, 0, none⟩ = some (.int .i64 a0_0) := (blk_cell HNA.out 0).trans rfl
  have p1 : WA.cell? ⟨g, 1, none⟩ = some (.slice A0_1 l0_1.length c0_1) := (blk_cell HNA.out 1).trans rfl
  go_wp2_with fail
  refine HR.out.mono ?_
  rintro e' w1 ⟨v1, v2, rfl, q1, q2, hb1⟩
  have HB1 := K0 (below_step HBA.out hb1)
  have HN1 := K0 (blk_below HNA.out hb1)
  have HQ1 := K0 (Kd.R_lower q1 HBA.out.size)
  have HQ2 := K0 (Kd.R_lower q2 HBA.out.size)
  obtain ⟨Ax, kx, ex⟩ := Kd.R_slice q1
  obtain ⟨Ay, ky, ey⟩ := Kd.R_slice q2
  subst ex ey
  clear p0 p1 hb1 q1 q2 HR HNA HBA
  by_cases e0 : b3 = 0
  · subst e0
    have h := H.out
    rw [if_pos rfl] at h
    clear H
    split at h
    · rename_i hfit
      simp only [Option.some.injEq, Prod.mk.injEq] at h
      obtain ⟨rfl, rfl⟩ := h
      have HF := K0 hfit
      clear hfit
      have hmm := @run_makeMap Try.prog
      go_upto_region 5 with ((with_reducible refine gate_dst (N := 6) rfl ?_); refine box_event ?hg (N := 6) ?hd (cs := #[.slice none 0 0, .slice none 0 0]) (t := 51) ?hr ?_; (case hd => rfl); (case hg => rfl); (case hr => first | (go_simp; done) | (go_simp; rfl)); intro g2 hg2 W2 n2 hb2; obtain ⟨⟨b0_, z0⟩, ⟨b1_, z1⟩, b2_⟩ := put2_facts n2 (.slice Ax b1.length kx) (.slice Ay b2.length ky); have HP2 := K0 b2_; have HB2 := K0 (below_step HB1.out hb2); have HG2 := K0 (show w.heap.size ≤ g2 ∧ g < g2 by have := HB1.out.size; have := blk_lt HN1.out; omega); have HN2 := K0 (blk_below HN1.out hb2); have HR1 := K0 (Kd.R_below HQ1.out hb2); have HR2 := K0 (show Kd.R (Kd.int .i64) 3 W2 w.heap.size (fun k => k ≠ g2) (.slice Ay b2.length ky) b2 from Kd.R_mono (Kd.R_below (Kd.R_bound HQ2.out) hb2) (fun k hk => by have := hk.2.2.1; omega)); clear hb2 n2 HB1 HN1 HQ1 HQ2 b2_ hg2)
      obtain ⟨wb, hwb⟩ : ∃ wb : World, (W2.setCell ⟨g2, 0, none⟩ (.slice Ax b1.length kx)).setCell ⟨g2, 1, none⟩ (.slice Ay b2.length ky) = wb := ⟨_, rfl⟩
      have hP : wb.heap[g2]? = some (.cells #[.slice Ax b1.length kx, .slice Ay b2.length ky] 51 (0, 0)) := by rw [← hwb]; exact HP2.out
      have hB : Below w.heap.size w wb := by rw [← hwb]; exact put2_below (g := g2) HB2.out HG2.out.1 (.slice Ax b1.length kx) (.slice Ay b2.length ky)
      have hsz : wb.heap.size = W2.heap.size := by rw [← hwb]; simp
      have hN := blk_far (blk_far HN2.out (show g ≠ g2 by have := HG2.out; omega) (p := ⟨g2, 0, none⟩) (.slice Ax b1.length kx)) (show g ≠ g2 by have := HG2.out; omega) (p := ⟨g2, 1, none⟩) (.slice Ay b2.length ky)
      have hK := Kd.R_far (Kd.R_far HR2.out (p := ⟨g2, 0, none⟩) (fun k hk => hk) (.slice Ax b1.length kx)) (p := ⟨g2, 1, none⟩) (fun k hk => hk) (.slice Ay b2.length ky)
      rw [hwb] at hN hK ⊢
      have HPB := K0 hP
      have HBB := K0 hB
      have HNB := K0 hN
      have HKB := K0 (Kd.V_reads' (Kd.R_V (base' := 0) hK)).2.2
      clear hP hB hN hK hwb HP2 HB2 HN2 HR1 HR2 b0_ z0 b1_ z1 hmm
      obtain ⟨W3, hW3⟩ : ∃ W3 : World, wb.alloc (.map #[] 0) = W3 := ⟨_, rfl⟩
      have hb3 : Below wb.heap.size wb W3 := by rw [← hW3]; exact below_alloc (Below.refl _ _) _
      have n3 := MapI.made wb Try.prog 3
      rw [hW3] at n3
      have HM3 := K0 (n3.congr (g := mapV (idTo 0)) (fun x => by unfold mapV idTo; rw [if_neg (by omega)]; rfl))
      have HB3 := K0 hb3
      rw [hW3]
      obtain ⟨bM, hbM⟩ : ∃ b, W2.heap.size = b := ⟨_, rfl⟩
      rw [hbM] at hsz ⊢
      rw [hsz] at HM3
      have HBM := K0 hsz
      have p1 : W3.cell? ⟨g, 1, none⟩ = some (.slice A0_1 l0_1.length c0_1) := (blk_cell (blk_below HNB.out hb3) 1).trans rfl
      clear hb3 n3 hW3 hbM hsz
      go_wp2
      clear p1
      have HS := K0 (show l0_1.length < 549755813888 from HF.out.1)
      go_loopg [9, 23] l0_1.length (fun gg v9 v23 wr => ∃ (j : Nat), v23 = .int .i64 (j : Int) ∧ Aside0 (j + gg = l0_1.length) ∧ Aside0 (MapI Try.prog 3 wr bM (mapV (idTo j))) ∧ Aside0 (Below wb.heap.size wb wr))
      case atStart => exact ⟨0, rfl, ⟨by simp⟩, HM3, HB3⟩
      case round =>
        clear HM3 HB3
        obtain ⟨j, rfl, hg, HM, HB⟩ := hrel
        by_cases hlt : j < l0_1.length
        · have Q0 : ((0 : Int) ≤ (j : Int)) = True := eq_true (by omega)
          have Q1 : ((j : Int) < (l0_1.length : Int)) = True := eq_true (by omega)
          have Q2 : (j < l0_1.length) = True := eq_true hlt
          have hd2 : decide ((j : Int) < (l0_1.length : Int)) = true := decide_eq_true (by omega)
          go_wp2_with (refine wpList_store_I rfl (.tmp 26) (.tmp 27) (.tmp 28) 57 rfl 3 3 Try.underlying3 Try.underlying57 bM (mapV (idTo j)) rfl HM.out (j : Int) (.int .i64 (j : Int)) rfl rfl (wf25 (by omega)) ((List.range j).map (fun v : Nat => (v : Int))) (idTo_keys j) (by rw [List.length_map, List.length_range]; have := HS.out; omega) ?_; intro w3 hM3 hg3; have HM3 := K0 (hM3.congr (idTo_set j)); have HB3 := K0 (HB.out.grown hg3 HB.out.size (fun k e => by cases e; exact Nat.le_of_eq HBM.out)); clear hM3 hg3)
          go_wp2
          go_roundg (l0_1.length - (j + 1))
          case measure => have := hg.out; omega
          case rel => exact ⟨j + 1, by simp, ⟨by have := hg.out; omega⟩, HM3, HB3⟩
        · have hd2 : decide ((j : Int) < (l0_1.length : Int)) = false := decide_eq_false (by omega)
          have Q2 : (j < l0_1.length) = False := eq_false hlt
          have hj : j = l0_1.length := by have := hg.out; omega
          subst hj
          have p1 : wr.cell? ⟨g, 1, none⟩ = some (.slice A0_1 l0_1.length c0_1) := (blk_cell (blk_below HNB.out HB.out) 1).trans rfl
          have p2 : wr.cell? ⟨g2, 0, none⟩ = some (.slice Ax b1.length kx) := (blk_cell (blk_below HPB.out HB.out) 0).trans rfl
          have p3 : wr.cell? ⟨g2, 1, none⟩ = some (.slice Ay b2.length ky) := (blk_cell (blk_below HPB.out HB.out) 1).trans rfl
          have HCL := K0 (core_numbered.calls (.slice Ax b1.length kx) Ay ky b2 A1 c1 l1 (l0_1.length : Int) (l0_1.length : Int) bM (idTo l0_1.length) ((List.range l0_1.length).map (fun v : Nat => (v : Int))) wb wr HKB.out (Kd.C_below HL.out HBB.out) HB.out HM.out (fun x hx => idTo_keys l0_1.length x (by unfold mapV; cases h : idTo l0_1.length x with | none => rw [h] at hx; cases hx | some _ => rfl)) (by rw [List.length_map, List.length_range]; have := HF.out.1; have := HF.out.2.2.1; omega) HF.out.2.2.2.1 (by have := HF.out.1; have := HF.out.2.1; omega) (by have := HF.out.1; have := HF.out.2.2.1; omega) (Nat.le_of_eq HBM.out) HF.out.2.2.2.2)
          clear HM
          go_wp2_with fail
          refine HCL.out.mono ?_
          rintro e' w3 ⟨v3, rfl, r3, hb3, _⟩
          have HR9 := K0 (show Kd.R k48 48 w3 w.heap.size (fun k => w.heap.size ≤ k) v3 _ from Kd.R_mono (Kd.R_lower r3 HBB.out.size) (fun k hk => Nat.le_trans (Nat.le_trans HBB.out.size HB.out.size) hk))
          have HB9 := K0 (below_step HBB.out hb3)
          clear r3 hb3 p1 p2 p3 HCL
          obtain ⟨A3, k3, e3⟩ := Kd.R_slice HR9.out
          subst e3
          go_wp2
          go_ret2
          exact ⟨_, rfl, Kd.R_N HR9.out, HB9.out⟩
    · cases h
  · have h := H.out
    rw [if_neg e0] at h
    simp only [Option.some.injEq, Prod.mk.injEq] at h
    obtain ⟨rfl, rfl⟩ := h
    have E1 : (b3 = 0) = False := eq_false e0
    go_wp2_with ((with_reducible refine gate_dst (N := 6) rfl ?_); refine box_event ?hg (N := 6) ?hd (cs := #[.slice none 0 0, .slice none 0 0]) (t := 51) ?hr ?_; (case hd => rfl); (case hg => rfl); (case hr => first | (go_simp; done) | (go_simp; rfl)); intro g2 hg2 W2 n2 hb2; obtain ⟨⟨b0_, z0⟩, ⟨b1_, z1⟩, b2_⟩ := put2_facts n2 (.slice Ax b1.length kx) (.slice Ay b2.length ky); have HP2 := K0 b2_; have HB2 := K0 (below_step HB1.out hb2); have HG2 := K0 (show w.heap.size ≤ g2 ∧ g < g2 by have := HB1.out.size; have := blk_lt HN1.out; omega); have HN2 := K0 (blk_below HN1.out hb2); have HR1 := K0 (Kd.R_below HQ1.out hb2); have HR2 := K0 (show Kd.R (Kd.int .i64) 3 W2 w.heap.size (fun k => k ≠ g2) (.slice Ay b2.length ky) b2 from Kd.R_mono (Kd.R_below (Kd.R_bound HQ2.out) hb2) (fun k hk => by have := hk.2.2.1; omega)); clear hb2 n2 HB1 HN1 HQ1 HQ2 b2_ hg2)
    go_ret2
    exact ⟨_, rfl, Kd.N_nil _ _ _ _ _, put2_below HB2.out HG2.out.1 _ _⟩
def fitC25 (l : List (List Int)) (cs : List Int) : Prop := cs.length < 549755813888 ∧ (∀ i ∈ cs, 0 ≤ i ∧ i < (l.length : Int)) ∧ ∀ x ∈ l, x.length < 17592186044416
instance {l : List (List Int)} {cs : List Int} : Decidable (fitC25 l cs) := by unfold fitC25; infer_instance
def rowsOf (l : List (List Int)) (cs : List Int) : List (List Int) := cs.map fun i => l.getD i.toNat []
def none25 (_ : Int) : Option Int := none
def core_Of.f (k : Nat) (a0_0 : Int) (l0_1 : List (List Int)) (l1 : List S48) : Option (Int × List (List Int) × List S48 × Int) :=
  (core_need.f k a0_0 l0_1 l1).bind fun r => if r.2.2 = 0 then (if fit25 l0_1.length l1 r.2.1 ∧ fitC25 l0_1 r.1 then some (a0_0, rowsOf l0_1 r.1, numP l1 (byP (l0_1.length : Int) (r.1.length : Int) r.2.1 0 (byP 0 0 r.1 0 none25)) r.2.1, 0) else none) else some (0, [], [], r.2.2)
theorem results_c3 {P : Program} {fn : Func} {p u u2 : Tmp} {ty : TypeId} (h : fn.results = #[.cell p ty, .tmp u, .tmp u2]) (tmps : Array Value) (w : World) (g : Nat) (t : TypeId) (cs : Array Value) (fr : Nat × Nat) (d : TypeDesc)
    (hp : tmps.getD p undef = .pointer (some ⟨g, 0, none⟩)) (hg : w.heap[g]? = some (.cells cs t fr))
    (hu : P.underlying ty = some d) (hd : (match d with | .struct _ | .array _ _ => true | _ => false) = true) (hi : (P.info? ty).map (·.size) = some cs.size) :
    (results fn tmps).run P w = .ok (.tuple #[.agg cs, tmps.getD u undef, tmps.getD u2 undef]) w := by
  have hp' : tmps[p]?.getD undef = .pointer (some ⟨g, 0, none⟩) := by simpa using hp
  simp [results, h, hp', asAddr, run_loadVar_row w g t ty cs fr d hg hu hd hi]
theorem none25_keys (x : Int) (h : (none25 x).isSome = true) : x ∈ ([] : List Int) := by cases h
set_option maxRecDepth 100000 in
set_option maxHeartbeats 4000000 in
theorem core_Of.calls (k : Nat) (a0_0 : Int) (A0_1 : Option Addr) (c0_1 : Nat) (l0_1 : List (List Int)) (A1 : Option Addr) (c1 : Nat) (l1 : List S48) (r1 : Int) (r2 : List (List Int)) (r3 : List S48) (r4 : Int) (w : World)
    (hr0_1 : Kd.C (Kd.slice 3 (Kd.int .i64)) w A0_1 l0_1.length l0_1) (hc0_1 : l0_1.length ≤ c0_1) (hr1 : Kd.C k48 w A1 l1.length l1) (hc1 : l1.length ≤ c1) (h : core_Of.f k a0_0 l0_1 l1 = some (r1, r2, r3, r4)) :
    Calls Try.prog 13 #[.agg #[.int .i64 a0_0, .slice A0_1 l0_1.length c0_1], .slice A1 l1.length c1] w fun e w' => ∃ v1_ v2_ : Value, e = .returned (.tuple #[.agg #[.int .i64 r1, v1_], v2_, .int .i64 r4]) ∧ Kd.N (Kd.slice 3 (Kd.int .i64)) 29 w' w.heap.size (fun k_ => (w.heap.size ≤ k_) ∧ some k_ ≠ (v2_ : Value).ownBlock) v1_ r2 ∧ Kd.N k48 48 w' w.heap.size (fun k_ => (w.heap.size ≤ k_) ∧ some k_ ≠ (v1_ : Value).ownBlock) v2_ r3 ∧ Below w.heap.size w w' := by
  unfold core_Of.f at h
  obtain ⟨⟨b1, b2, b3⟩, hb, h2⟩ := Option.bind_eq_some_iff.mp h
  clear h
  dsimp only at h2
  have hbig := hr1.2.1
  have hbig0 := hr0_1.2.1
  have huC := Try.underlying24
  have huN := Try.underlying51
  obtain ⟨WB, hWB⟩ : ∃ WB : World, w.alloc (.cells #[.int .i64 a0_0, .slice A0_1 l0_1.length c0_1] 24) = WB := ⟨_, rfl⟩
  obtain ⟨WA, hWA⟩ : ∃ WA : World, WB.alloc (.cells #[.int .i64 0, .slice none 0 0] 24) = WA := ⟨_, rfl⟩
  have hbB : Below w.heap.size w WB := by rw [← hWB]; exact below_alloc (Below.refl _ _) _
  have hbA0 : Below WB.heap.size WB WA := by rw [← hWA]; exact below_alloc (Below.refl _ _) _
  have hbA := below_step hbB hbA0
  have nB := blk_new w (.cells #[.int .i64 a0_0, .slice A0_1 l0_1.length c0_1] 24)
  have nA := blk_new WB (.cells #[.int .i64 0, .slice none 0 0] 24)
  rw [hWA] at nA
  rw [hWB] at nB
  have HR := K0 (core_need.calls k a0_0 A0_1 c0_1 l0_1 A1 c1 l1 b1 b2 b3 WA (Kd.C_below hr0_1 hbA) hc0_1 (Kd.C_below hr1 hbA) hc1 hb)
  have H := K0 h2; have HC := K0 hr0_1; have HL := K0 hr1; have HBA := K0 hbA
  have HNA := K0 (blk_below nB hbA0)
  have HWA := K0 hWA; have HWB := K0 hWB
  have hsB : WB.heap.size = w.heap.size + 1 := by rw [← hWB]; simp
  rw [hsB] at nA
  obtain ⟨g, hg⟩ : ∃ g, w.heap.size = g := ⟨_, rfl⟩
  rw [hg] at HNA
  obtain ⟨gR, hgR⟩ : ∃ gR, w.heap.size + 1 = gR := ⟨_, rfl⟩
  rw [hgR] at nA
  have HNR := K0 nA
  have HGE := K0 (show g = w.heap.size ∧ g < gR from ⟨hg.symm, by omega⟩)
  have HG := K0 hg
  have HGR := K0 (show g + 1 = gR by omega)
  clear hr0_1 hr1 hb h2 hWA hWB hbA hbB hbA0 nA nB hg hgR hsB
  go_enter Try.func13, Try.ntmps13
  go_upto_region 1 with fail
  rw [HWB.out, HWA.out, HG.out, HGR.out]
  clear HWA HWB HGR
  have p0 : WA.cell? ⟨g, 0, none⟩ = some (.int .i64 a0_0) := (blk_cell HNA.out 0).trans rfl
  have p1 : WA.cell? ⟨g, 1, none⟩ = some (.slice A0_1 l0_1.length c0_1) := (blk_cell HNA.out 1).trans rfl
  go_wp2_with fail
  refine HR.out.mono ?_
  rintro e' w1 ⟨v1, v2, rfl, q1, q2, hb1⟩
  have HB1 := K0 (below_step HBA.out hb1)
  have HN1 := K0 (blk_below HNA.out hb1)
  have HNR1 := K0 (blk_below HNR.out hb1)
  have HQ1 := K0 (Kd.R_lower q1 HBA.out.size)
  have HQ2 := K0 (Kd.R_lower q2 HBA.out.size)
  obtain ⟨Ax, kx, ex⟩ := Kd.R_slice q1
  obtain ⟨Ay, ky, ey⟩ := Kd.R_slice q2
  subst ex ey; clear p0 p1 hb1 q1 q2 HR HNA HNR HBA
  by_cases e0 : b3 = 0
  case neg =>
    have h := H.out
    rw [if_neg e0] at h
    simp only [Option.some.injEq, Prod.mk.injEq] at h
    obtain ⟨rfl, rfl, rfl, rfl⟩ := h
    have E1 : (b3 = 0) = False := eq_false e0
    go_upto_region 3 with ((with_reducible refine gate_dst (N := 7) rfl ?_); refine box_event ?hg (N := 7) ?hd (cs := #[.slice none 0 0, .slice none 0 0]) (t := 51) ?hr ?_; (case hd => rfl); (case hg => rfl); (case hr => first | (go_simp; done) | (go_simp; rfl)); intro g2 hg2 W2 n2 hb2; obtain ⟨⟨b0_, z0⟩, ⟨b1_, z1⟩, b2_⟩ := put2_facts n2 (.slice Ax b1.length kx) (.slice Ay b2.length ky); have HP2 := K0 b2_; have HB2 := K0 (below_step HB1.out hb2); have HG2 := K0 (show w.heap.size ≤ g2 ∧ g < g2 ∧ gR < g2 by have := HB1.out.size; have := blk_lt HN1.out; have := blk_lt HNR1.out; omega); have HN2 := K0 (blk_below HN1.out hb2); have HNR2 := K0 (blk_below HNR1.out hb2); have HR1 := K0 (show Kd.R (Kd.int .i64) 3 W2 w.heap.size (fun k => k ≠ g2) (.slice Ax b1.length kx) b1 from Kd.R_mono (Kd.R_below (Kd.R_bound HQ1.out) hb2) (fun k hk => by have := hk.2.2.1; omega)); have HR2 := K0 (show Kd.R (Kd.int .i64) 3 W2 w.heap.size (fun k => k ≠ g2) (.slice Ay b2.length ky) b2 from Kd.R_mono (Kd.R_below (Kd.R_bound HQ2.out) hb2) (fun k hk => by have := hk.2.2.1; omega)); clear hb2 n2 HB1 HN1 HNR1 HQ1 HQ2 b2_ hg2)
    obtain ⟨wb, hwb⟩ : ∃ wb : World, (W2.setCell ⟨g2, 0, none⟩ (.slice Ax b1.length kx)).setCell ⟨g2, 1, none⟩ (.slice Ay b2.length ky) = wb := ⟨_, rfl⟩
    have hP : wb.heap[g2]? = some (.cells #[.slice Ax b1.length kx, .slice Ay b2.length ky] 51 (0, 0)) := by rw [← hwb]; exact HP2.out
    have hB : Below w.heap.size w wb := by rw [← hwb]; exact put2_below (g := g2) HB2.out HG2.out.1 (.slice Ax b1.length kx) (.slice Ay b2.length ky)
    have hN := blk_far (blk_far HN2.out (show g ≠ g2 by have := HG2.out; omega) (p := ⟨g2, 0, none⟩) (.slice Ax b1.length kx)) (show g ≠ g2 by have := HG2.out; omega) (p := ⟨g2, 1, none⟩) (.slice Ay b2.length ky)
    have hNR := blk_far (blk_far HNR2.out (show gR ≠ g2 by have := HG2.out; omega) (p := ⟨g2, 0, none⟩) (.slice Ax b1.length kx)) (show gR ≠ g2 by have := HG2.out; omega) (p := ⟨g2, 1, none⟩) (.slice Ay b2.length ky)
    have hK1 := Kd.R_far (Kd.R_far HR1.out (p := ⟨g2, 0, none⟩) (fun k hk => hk) (.slice Ax b1.length kx)) (p := ⟨g2, 1, none⟩) (fun k hk => hk) (.slice Ay b2.length ky)
    have hK2 := Kd.R_far (Kd.R_far HR2.out (p := ⟨g2, 0, none⟩) (fun k hk => hk) (.slice Ax b1.length kx)) (p := ⟨g2, 1, none⟩) (fun k hk => hk) (.slice Ay b2.length ky)
    rw [hwb] at hN hNR hK1 hK2 ⊢
    have HPB := K0 hP; have HBB := K0 hB; have HNB := K0 hN; have HNRB := K0 hNR
    have HK1 := K0 (Kd.V_reads' (Kd.R_V (base' := 0) hK1)).2.2
    have HK2 := K0 (Kd.V_reads' (Kd.R_V (base' := 0) hK2)).2.2
    clear hP hB hN hNR hK1 hK2 hwb HP2 HB2 HN2 HNR2 HR1 HR2 b0_ z0 b1_ z1
    obtain ⟨⟨c0_, y0⟩, ⟨c1_, y1⟩, c2_⟩ := put2_facts HNRB.out (.int .i64 0) (.slice none 0 0)
    have HC2 := K0 c2_; clear c2_
    go_wp2
    (try simp only [Exit.inBlock, Exit.then])
    refine bodyPost_ret (results_c3 rfl _ _ gR _ _ _ _ rfl HC2.out huC rfl (by kernel_rfl)) rfl ?_
    exact ⟨_, _, rfl, Kd.N_nil _ _ _ _ _, Kd.N_nil _ _ _ _ _, put2_below HBB.out (by have := HGE.out; omega) _ _⟩
  subst e0
  have h := H.out
  rw [if_pos rfl] at h
  clear H
  split at h
  · rename_i hfit
    simp only [Option.some.injEq, Prod.mk.injEq] at h
    obtain ⟨rfl, rfl, rfl, rfl⟩ := h
    have HF := K0 hfit.1
    have HFC := K0 hfit.2
    clear hfit
    have hmm := @run_makeMap Try.prog
    go_upto_region 4 with ((with_reducible refine gate_dst (N := 7) rfl ?_); refine box_event ?hg (N := 7) ?hd (cs := #[.slice none 0 0, .slice none 0 0]) (t := 51) ?hr ?_; (case hd => rfl); (case hg => rfl); (case hr => first | (go_simp; done) | (go_simp; rfl)); intro g2 hg2 W2 n2 hb2; obtain ⟨⟨b0_, z0⟩, ⟨b1_, z1⟩, b2_⟩ := put2_facts n2 (.slice Ax b1.length kx) (.slice Ay b2.length ky); have HP2 := K0 b2_; have HB2 := K0 (below_step HB1.out hb2); have HG2 := K0 (show w.heap.size ≤ g2 ∧ g < g2 ∧ gR < g2 by have := HB1.out.size; have := blk_lt HN1.out; have := blk_lt HNR1.out; omega); have HN2 := K0 (blk_below HN1.out hb2); have HNR2 := K0 (blk_below HNR1.out hb2); have HR1 := K0 (show Kd.R (Kd.int .i64) 3 W2 w.heap.size (fun k => k ≠ g2) (.slice Ax b1.length kx) b1 from Kd.R_mono (Kd.R_below (Kd.R_bound HQ1.out) hb2) (fun k hk => by have := hk.2.2.1; omega)); have HR2 := K0 (show Kd.R (Kd.int .i64) 3 W2 w.heap.size (fun k => k ≠ g2) (.slice Ay b2.length ky) b2 from Kd.R_mono (Kd.R_below (Kd.R_bound HQ2.out) hb2) (fun k hk => by have := hk.2.2.1; omega)); clear hb2 n2 HB1 HN1 HNR1 HQ1 HQ2 b2_ hg2)
    obtain ⟨wb, hwb⟩ : ∃ wb : World, (W2.setCell ⟨g2, 0, none⟩ (.slice Ax b1.length kx)).setCell ⟨g2, 1, none⟩ (.slice Ay b2.length ky) = wb := ⟨_, rfl⟩
    have hP : wb.heap[g2]? = some (.cells #[.slice Ax b1.length kx, .slice Ay b2.length ky] 51 (0, 0)) := by rw [← hwb]; exact HP2.out
    have hB : Below w.heap.size w wb := by rw [← hwb]; exact put2_below (g := g2) HB2.out HG2.out.1 (.slice Ax b1.length kx) (.slice Ay b2.length ky)
    have hN := blk_far (blk_far HN2.out (show g ≠ g2 by have := HG2.out; omega) (p := ⟨g2, 0, none⟩) (.slice Ax b1.length kx)) (show g ≠ g2 by have := HG2.out; omega) (p := ⟨g2, 1, none⟩) (.slice Ay b2.length ky)
    have hNR := blk_far (blk_far HNR2.out (show gR ≠ g2 by have := HG2.out; omega) (p := ⟨g2, 0, none⟩) (.slice Ax b1.length kx)) (show gR ≠ g2 by have := HG2.out; omega) (p := ⟨g2, 1, none⟩) (.slice Ay b2.length ky)
    have hK1 := Kd.R_far (Kd.R_far HR1.out (p := ⟨g2, 0, none⟩) (fun k hk => hk) (.slice Ax b1.length kx)) (p := ⟨g2, 1, none⟩) (fun k hk => hk) (.slice Ay b2.length ky)
    have hK2 := Kd.R_far (Kd.R_far HR2.out (p := ⟨g2, 0, none⟩) (fun k hk => hk) (.slice Ax b1.length kx)) (p := ⟨g2, 1, none⟩) (fun k hk => hk) (.slice Ay b2.length ky)
    rw [hwb] at hN hNR hK1 hK2 ⊢
    have HPB := K0 hP; have HBB := K0 hB; have HNB := K0 hN; have HNRB := K0 hNR
    have HK1 := K0 (Kd.V_reads' (Kd.R_V (base' := 0) hK1)).2.2
    have HK2 := K0 (Kd.V_reads' (Kd.R_V (base' := 0) hK2)).2.2
    clear hP hB hN hNR hK1 hK2 hwb HP2 HB2 HN2 HNR2 HR1 HR2 b0_ z0 b1_ z1
    have p0 : wb.cell? ⟨g, 0, none⟩ = some (.int .i64 a0_0) := (blk_cell HNB.out 0).trans rfl
    go_upto_region 5 with fail
    clear p0 hmm
    obtain ⟨W4, hW4⟩ : ∃ W4 : World, wb.alloc (.map #[] 0) = W4 := ⟨_, rfl⟩
    have hb3 : Below wb.heap.size wb W4 := by rw [← hW4]; exact below_alloc (Below.refl _ _) _
    have hsz3 : W4.heap.size = wb.heap.size + 1 := by rw [← hW4]; simp
    have hm3 := MapI.made wb Try.prog 3
    rw [hW4] at hm3 ⊢
    obtain ⟨W5, hW5⟩ : ∃ W5 : World, W4.alloc (.cells #[.int .i64 a0_0, .slice none 0 0] 24) = W5 := ⟨_, rfl⟩
    have hb4 : Below W4.heap.size W4 W5 := by rw [← hW5]; exact below_alloc (Below.refl _ _) _
    have hD := blk_new W4 (.cells #[.int .i64 a0_0, .slice none 0 0] 24)
    have hB := below_step hb3 hb4
    have hM : MapI Try.prog 3 W5 wb.heap.size (mapV none25) := (hm3.block (hb4.block _ hm3.lt)).congr (g := mapV none25) (fun x => rfl)
    rw [hW5, hsz3] at hD
    obtain ⟨gD, hgD⟩ : ∃ g, wb.heap.size + 1 = g := ⟨_, rfl⟩
    rw [hgD] at hD ⊢
    rw [hW5]
    obtain ⟨bM, hbM⟩ : ∃ b, wb.heap.size = b := ⟨_, rfl⟩
    rw [hbM] at hM ⊢
    have HD5 := K0 hD; have HB5 := K0 hB; have HM5 := K0 hM
    have HBM := K0 (show wb.heap.size = bM ∧ gD = bM + 1 from ⟨hbM, by omega⟩)
    have p0 : W5.cell? ⟨g2, 0, none⟩ = some (.slice Ax b1.length kx) := (blk_cell (blk_below HPB.out hB) 0).trans rfl
    clear hD hB hM hW5 hW4 hbM hb3 hb4 hm3 hsz3 hgD
    go_wp2
    clear p0
    go_loopg [11, 12, 30] b1.length (fun gg v11 v12 v30 wr => ∃ (j : Nat) (Gj : Int → Option Int) (Lj : List Int) (vD : Value), v30 = .int .i64 (j : Int) ∧ Aside0 (j + gg = b1.length) ∧ Aside0 (MapI Try.prog 3 wr bM (mapV Gj)) ∧ Aside0 (Below wb.heap.size wb wr) ∧ Aside0 (wr.heap[gD]? = some (.cells #[.int .i64 a0_0, vD] 24 (0, 0))) ∧ Aside0 (byP 0 0 (b1.drop j) (j : Int) Gj = byP 0 0 b1 0 none25) ∧ Aside0 ((∀ x, (Gj x).isSome = true → x ∈ Lj) ∧ Lj.length = j) ∧ Aside0 (Kd.R (Kd.slice 3 (Kd.int .i64)) 29 wr wb.heap.size (fun k => gD < k) vD (rowsOf l0_1 (b1.take j))))
    case atStart => exact ⟨0, none25, [], _, rfl, ⟨by simp⟩, HM5, HB5, HD5, ⟨rfl⟩, ⟨none25_keys, rfl⟩, ⟨Kd.R_nil _ _ _ _ _⟩⟩
    case round =>
      clear HM5 HB5 HD5
      obtain ⟨j, Gj, Lj, vD, rfl, hg, HM, HB, HD, HBY, HL2, HO⟩ := hrel
      have hbl : b1.length < 549755813888 := HFC.out.1
      by_cases hlt : j < b1.length
      case neg =>
        have hd2 : decide ((j : Int) < (b1.length : Int)) = false := decide_eq_false (by omega)
        have Q2 : (j < b1.length) = False := eq_false hlt
        have hj : j = b1.length := by have := hg.out; omega
        have hby := HBY.out
        rw [List.drop_of_length_le (by omega), byP] at hby
        subst hby
        have ho := HO.out
        rw [List.take_of_length_le (by omega)] at ho
        obtain ⟨AD, kD, eD⟩ := Kd.R_slice ho
        rw [show (rowsOf l0_1 b1).length = b1.length by unfold rowsOf; rw [List.length_map]] at eD
        subst eD; have HO9 := K0 ho
        have HL9 := K0 (show (∀ x, (byP 0 0 b1 0 none25 x).isSome = true → x ∈ Lj) ∧ Lj.length = b1.length from ⟨HL2.out.1, by rw [HL2.out.2, hj]⟩)
        obtain ⟨G2, hG2⟩ : ∃ G2, byP 0 0 b1 0 none25 = G2 := ⟨_, rfl⟩
        rw [hG2] at HM HL9
        have HNC := K0 (core_numbered.calls (.slice Ax b1.length kx) Ay ky b2 A1 c1 l1 (l0_1.length : Int) (b1.length : Int) bM G2 Lj wb wr.drew HK2.out (Kd.C_below HL.out HBB.out) (below_drew HB.out) (HM.out.block rfl) HL9.out.1 (by rw [HL9.out.2]; have := HFC.out.1; have := HF.out.2.2.1; omega) HF.out.2.2.2.1 (by have := HF.out.1; have := HF.out.2.1; omega) (by have := HFC.out.1; have := HF.out.2.2.1; omega) (Nat.le_of_eq HBM.out.1) HF.out.2.2.2.2)
        have d0 : wr.cell? ⟨gD, 0, none⟩ = some (.int .i64 a0_0) := (blk_cell HD.out 0).trans rfl
        have d1 : wr.cell? ⟨gD, 1, none⟩ = some (.slice AD b1.length kD) := (blk_cell HD.out 1).trans rfl
        have d2 : wr.cell? ⟨g2, 0, none⟩ = some (.slice Ax b1.length kx) := (blk_cell (blk_below HPB.out HB.out) 0).trans rfl
        have d3 : wr.cell? ⟨g2, 1, none⟩ = some (.slice Ay b2.length ky) := (blk_cell (blk_below HPB.out HB.out) 1).trans rfl
        have d4 : wr.cell? ⟨g, 1, none⟩ = some (.slice A0_1 l0_1.length c0_1) := (blk_cell (blk_below HNB.out HB.out) 1).trans rfl
        clear HBY ho HO HL2 hj
        go_upto_region 11 with fail
        refine start_ (n := 14) (S := fun w' => w'.cell? ⟨gD, 0, none⟩ = some (.int .i64 a0_0) ∧ w'.cell? ⟨gD, 1, none⟩ = some (.slice AD b1.length kD) ∧ w'.cell? ⟨g2, 0, none⟩ = some (.slice Ax b1.length kx) ∧ w'.cell? ⟨g2, 1, none⟩ = some (.slice Ay b2.length ky) ∧ w'.cell? ⟨g, 1, none⟩ = some (.slice A0_1 l0_1.length c0_1)) (ds := [11]) #[false, false, false, false, false, false, false, false, false, false, false, false, false, false] (by kernel_rfl) rfl rfl ⟨d0, d1, d2, d3, d4⟩ (fun hHeld => ?_)
        refine pure_ (i := 2) (N := some 52) (v := ?_) (a' := ?_) #[false, false, true, false, false, false, false, false, false, false, false, false, false, false] rfl rfl (by kernel_rfl) (fun _ _ _ h => h) (Or.inl ⟨by rfl, ?_⟩) ?_ ?_
        rotate_left
        · intro w'
          go_simp
          with_reducible rfl
        rotate_left
        · simp only [Act.put, List.setIfInBounds_toArray, List.set_cons_zero, List.set_cons_succ, i64_w, i32_w]
          rfl
        refine pure_ (i := 3) (N := some 53) (v := ?_) (a' := ?_) #[false, false, true, true, false, false, false, false, false, false, false, false, false, false] rfl rfl (by kernel_rfl) (fun _ _ _ h => h) (Or.inl ⟨by rfl, ?_⟩) ?_ ?_
        rotate_left
        · intro w'
          go_simp
          with_reducible rfl
        rotate_left
        · simp only [Act.put, List.setIfInBounds_toArray, List.set_cons_zero, List.set_cons_succ, i64_w, i32_w]
          rfl
        refine pure_ (i := 6) (N := some 56) (v := ?_) (a' := ?_) #[false, false, true, true, false, false, true, false, false, false, false, false, false, false] rfl rfl (by kernel_rfl) (fun _ _ _ h => h) (Or.inl ⟨by rfl, ?_⟩) ?_ ?_
        rotate_left
        · intro w'
          go_simp
          with_reducible rfl
        rotate_left
        · simp only [Act.put, List.setIfInBounds_toArray, List.set_cons_zero, List.set_cons_succ, i64_w, i32_w]
          rfl
        refine pure_ (i := 9) (N := some 59) (v := ?_) (a' := ?_) #[false, false, true, true, false, false, true, false, false, true, false, false, false, false] rfl rfl (by kernel_rfl) (fun _ _ _ h => h) (Or.inl ⟨by rfl, ?_⟩) ?_ ?_
        rotate_left
        · intro w'
          go_simp
          with_reducible rfl
        rotate_left
        · simp only [Act.put, List.setIfInBounds_toArray, List.set_cons_zero, List.set_cons_succ, i64_w, i32_w]
          rfl
        refine take_ (i := 0) (N := some 50) (v := ?_) (a' := ?_) #[true, false, true, true, false, false, true, false, false, true, false, false, false, false] rfl rfl (by kernel_rfl) (fun _ _ _ h => h) (Or.inl ⟨by rfl, ?_⟩) hHeld ?_ ?_
        rotate_left
        · rintro w' ⟨s0, s1, s2, s3, s4⟩
          go_simp
          with_reducible rfl
        rotate_left
        · simp only [Act.put, List.setIfInBounds_toArray, List.set_cons_zero, List.set_cons_succ, i64_w, i32_w]
          rfl
        refine take_ (i := 1) (N := some 51) (v := ?_) (a' := ?_) #[true, true, true, true, false, false, true, false, false, true, false, false, false, false] rfl rfl (by kernel_rfl) (fun _ _ _ h => h) (Or.inl ⟨by rfl, ?_⟩) hHeld ?_ ?_
        rotate_left
        · rintro w' ⟨s0, s1, s2, s3, s4⟩
          go_simp
          with_reducible rfl
        rotate_left
        · simp only [Act.put, List.setIfInBounds_toArray, List.set_cons_zero, List.set_cons_succ, i64_w, i32_w]
          rfl
        refine take_ (i := 4) (N := some 54) (v := ?_) (a' := ?_) #[true, true, true, true, true, false, true, false, false, true, false, false, false, false] rfl rfl (by kernel_rfl) (fun _ _ _ h => h) (Or.inl ⟨by rfl, ?_⟩) hHeld ?_ ?_
        rotate_left
        · rintro w' ⟨s0, s1, s2, s3, s4⟩
          go_simp
          with_reducible rfl
        rotate_left
        · simp only [Act.put, List.setIfInBounds_toArray, List.set_cons_zero, List.set_cons_succ, i64_w, i32_w]
          rfl
        refine pure_ (i := 5) (N := some 55) (v := ?_) (a' := ?_) #[true, true, true, true, true, true, true, false, false, true, false, false, false, false] rfl rfl (by kernel_rfl) (fun _ _ _ h => h) (Or.inl ⟨by rfl, ?_⟩) ?_ ?_
        rotate_left
        · intro w'
          go_simp
          with_reducible rfl
        rotate_left
        · simp only [Act.put, List.setIfInBounds_toArray, List.set_cons_zero, List.set_cons_succ, i64_w, i32_w]
          rfl
        refine take_ (i := 7) (N := some 57) (v := ?_) (a' := ?_) #[true, true, true, true, true, true, true, true, false, true, false, false, false, false] rfl rfl (by kernel_rfl) (fun _ _ _ h => h) (Or.inl ⟨by rfl, ?_⟩) hHeld ?_ ?_
        rotate_left
        · rintro w' ⟨s0, s1, s2, s3, s4⟩
          go_simp
          with_reducible rfl
        rotate_left
        · simp only [Act.put, List.setIfInBounds_toArray, List.set_cons_zero, List.set_cons_succ, i64_w, i32_w]
          rfl
        refine pure_ (i := 8) (N := some 58) (v := ?_) (a' := ?_) #[true, true, true, true, true, true, true, true, true, true, false, false, false, false] rfl rfl (by kernel_rfl) (fun _ _ _ h => h) (Or.inl ⟨by rfl, ?_⟩) ?_ ?_
        rotate_left
        · intro w'
          go_simp
          with_reducible rfl
        rotate_left
        · simp only [Act.put, List.setIfInBounds_toArray, List.set_cons_zero, List.set_cons_succ, i64_w, i32_w]
          rfl
        refine one_ (i := 10) (N := some 60) #[true, true, true, true, true, true, true, true, true, true, true, false, false, false] rfl rfl (by kernel_rfl) (by decide) (fun K hK => ?_)
        refine goes_ Try.func25 (by kernel_rfl) rfl #[.agg #[.slice Ax b1.length kx, .slice Ay b2.length ky], .slice A1 l1.length c1, .int .i64 (l0_1.length : Int), .int .i64 (b1.length : Int), .map (some bM)] (by rfl) rfl rfl (by simp only [List.map_toArray, List.map_cons, List.map_nil]; rfl) ?_
        with_reducible refine (HNC.out).mono ?_
        rintro e' w3 ⟨v3, rfl, r3, hb3, hkm⟩
        refine ⟨_, rfl, ?_⟩
        have R3 := K0 r3; have B3 := K0 hb3; have KM := K0 hkm
        have hD3 := (hkm.2 gD (blk_lt HD.out) (by have := HBM.out; omega)).trans (show wr.drew.heap[gD]? = _ from HD.out)
        have hNR3 := blk_below HNRB.out hb3
        have hP3 := blk_below HPB.out hb3
        have hN3 := blk_below HNB.out hb3
        obtain ⟨⟨c0_, y0⟩, ⟨c1_, y1⟩, c2_⟩ := put2_facts hNR3 (.int .i64 a0_0) (.slice AD b1.length kD)
        have HC2 := K0 c2_; clear r3 hb3 hkm c2_
        refine hK.out _ _ ⟨blk_cell hD3 0, blk_cell hD3 1, blk_cell hP3 0, blk_cell hP3 1, blk_cell hN3 1⟩ (fun hHeld => ?_)
        clear hK K
        refine norm_ (a' := ?_) ?_ ?_
        rotate_left
        · show Act.put _ (some 60) _ = _
          simp only [Act.put, List.setIfInBounds_toArray, List.set_cons_zero, List.set_cons_succ, i64_w, i32_w]
          rfl
        refine last_ (i := 11) (N := none) #[true, true, true, true, true, true, true, true, true, true, true, true, false, false] rfl rfl (by kernel_rfl) (by decide) (fun K hK => ?_)
        refine skip_ (w1 := ?_) (by rfl) rfl ?_ ?_
        rotate_left
        · go_simp
          rfl
        refine hK.out _ _ ?_
        clear hK K
        refine pure_ (i := 12) (N := some 5) (v := ?_) (a' := ?_) #[true, true, true, true, true, true, true, true, true, true, true, true, true, false] rfl rfl (by kernel_rfl) (fun _ _ _ h => h) (Or.inl ⟨by rfl, ?_⟩) ?_ ?_
        rotate_left
        · intro w'
          go_simp
          with_reducible rfl
        rotate_left
        · simp only [Act.put, List.setIfInBounds_toArray, List.set_cons_zero, List.set_cons_succ, i64_w, i32_w]
          rfl
        refine pure_ (i := 13) (N := some 6) (v := ?_) (a' := ?_) #[true, true, true, true, true, true, true, true, true, true, true, true, true, true] rfl rfl (by kernel_rfl) (fun _ _ _ h => h) (Or.inl ⟨by rfl, ?_⟩) ?_ ?_
        rotate_left
        · intro w'
          go_simp
          with_reducible rfl
        rotate_left
        · simp only [Act.put, List.setIfInBounds_toArray, List.set_cons_zero, List.set_cons_succ, i64_w, i32_w]
          rfl
        refine done_ (by kernel_rfl) ?_
        go_wp2
        (try simp only [Exit.inBlock, Exit.then])
        refine bodyPost_ret (results_c3 rfl _ _ gR _ _ _ _ rfl HC2.out huC rfl (by kernel_rfl)) rfl ?_
        refine ⟨_, _, rfl, Kd.R_N (Kd.R_mono (Kd.R_lower (Kd.R_step (Kd.R_bound HO9.out) (fun k hk hlt => (put2_far _ _ k (by have := blk_lt HNRB.out; have := HBM.out; omega)).trans (KM.out.2 k hlt (by have := HBM.out; omega)))) HBB.out.size) (fun k hk => ⟨by have := HBB.out.size; have := HBM.out; omega, fun e => by have h1 : wr.heap.size ≤ k := R3.out.1 k e.symm; have := hk.2.2.1; omega⟩)), ?_, put2_below (below_step HBB.out B3.out) (by have := HGE.out; omega) _ _⟩
        rw [hG2]
        refine Kd.R_N (Kd.R_mono (Kd.R_lower (Kd.R_step (Kd.R_bound R3.out) (fun k hk _ => put2_far _ _ k (by have := blk_lt HNRB.out; have := hk.2.1; omega))) HBB.out.size) (fun k hk => ⟨Nat.le_trans HBB.out.size hk.2.1, fun e => ?_⟩))
        obtain ⟨inner, ho⟩ := Kd.R_own HO9.out
        have h1 := own_lt ho k e.symm
        have h2 : wr.heap.size ≤ k := hk.1
        omega
      obtain ⟨ad2, e2, x2⟩ := Kd.at_int (Kd.C_below HK1.out HB.out) (j : Int) (by omega) (by omega)
      cases e2
      obtain ⟨y0, hy0⟩ : ∃ y, b1[j] = y := ⟨_, rfl⟩
      have hyb := HFC.out.2.1 y0 (by rw [← hy0]; exact List.getElem_mem hlt)
      obtain ⟨y, rfl⟩ : ∃ y : Nat, y0 = (y : Int) := ⟨y0.toNat, by omega⟩
      have hrd : rd b1 (j : Int) = (y : Int) := by simp [rd, hlt, hy0]
      rw [hrd] at x2
      simp only [Int.toNat_natCast] at x2
      have hyl : y < l0_1.length := by omega
      have hby := HBY.out
      rw [List.drop_eq_getElem_cons hlt, hy0, byP] at hby
      simp only [Int.zero_add] at hby
      have HBY2 := K0 hby
      obtain ⟨ad, Ar, cr, e1, x1, hlr, hCr⟩ := at_L3 HC.out (y : Int) (by omega) (by omega)
      cases e1
      obtain ⟨row, hrow⟩ : ∃ row, l0_1[y] = row := ⟨_, rfl⟩
      have hrd2 : rd_L3 l0_1 (y : Int) = row := by rw [← hrow]; simp [rd_L3, hyl]
      rw [hrd2] at x1 hlr hCr
      simp only [Int.toNat_natCast] at x1
      have HX1 := K0 x1; have HCR := K0 hCr; have HLR := K0 hlr
      have HROW := K0 (show rowsOf l0_1 (b1.take (j + 1)) = rowsOf l0_1 (b1.take j) ++ [row] by
        unfold rowsOf
        rw [List.take_add_one, List.getElem?_eq_getElem hlt, hy0, List.map_append]
        simp [List.getElem?_eq_getElem hyl, hrow])
      have HRL := K0 (HFC.out.2.2 row (by rw [← hrow]; exact List.getElem_mem hyl))
      have HWK := K0 (wf25 (j := y) (by have := HF.out.1; omega))
      have HKEY := K0 (show ∀ x, (mapV Gj x).isSome = true → x ∈ Lj from fun x hx => HL2.out.1 x (by unfold mapV at hx; cases h : Gj x with | none => rw [h] at hx; cases hx | some _ => rfl))
      have HLN := K0 (show ((rowsOf l0_1 (b1.take j)).length + 1) * 24 ≤ 140737488355328 by have := HFC.out.1; unfold rowsOf; rw [List.length_map, List.length_take]; omega)
      have Q0 : ((0 : Int) ≤ (j : Int)) = True := eq_true (by omega)
      have Q1 : ((j : Int) < (b1.length : Int)) = True := eq_true (by omega)
      have Q2 : (j < b1.length) = True := eq_true hlt
      have U0 : ((0 : Int) ≤ (y : Int)) = True := eq_true (by omega)
      have U1 : ((y : Int) < (l0_1.length : Int)) = True := eq_true (by omega)
      have U2 : (y < l0_1.length) = True := eq_true hyl
      have hd2 : decide ((j : Int) < (b1.length : Int)) = true := decide_eq_true (by omega)
      clear hrd hrd2 hy0 hrow hyb hby HBY x1 hCr hlr
      go_upto_region 9 with (refine wpList_store_I rfl (.tmp 35) (.tmp 36) (.tmp 37) 57 rfl 3 3 Try.underlying3 Try.underlying57 bM (mapV Gj) rfl HM.out (y : Int) (.int .i64 (j : Int)) rfl rfl HWK.out Lj HKEY.out (by have := HL2.out.2; have := HFC.out.1; omega) ?_; intro w3 hM3 hg3; have HM3 := K0 (hM3.congr mapV_set); have HB3 := K0 (HB.out.grown hg3 HB.out.size (fun k e => by cases e; exact Nat.le_of_eq HBM.out.1)); have HD3 := K0 (blk_grown HD.out hg3 (by have := HBM.out.2; intro e; injection e with e; omega)); have HO3a := K0 (Kd.R_grown HO.out hg3 (fun k hk e => by injection e with e; have := HBM.out.2; omega)); clear hM3 hg3)
      clear x2 HM HB HD HO
      obtain ⟨sz, hsz⟩ : ∃ z, w3.heap.size = z := ⟨_, rfl⟩
      have HSZ := K0 (show w3.drew.heap.size = sz from hsz)
      have HGS := K0 (show gD < sz by have := blk_lt HD3.out; omega)
      have HO3 := K0 (show Kd.R (Kd.slice 3 (Kd.int .i64)) 29 w3.drew wb.heap.size (fun k => gD < k ∧ k < sz) vD (rowsOf l0_1 (b1.take j)) from Kd.R_drew (Kd.R_mono (Kd.R_bound HO3a.out) (fun k hk => ⟨hk.1, by rw [← hsz]; exact hk.2.2.1⟩)))
      have HCL := K0 (slices_Clone_int.calls Ar cr row w3.drew (Kd.C_below HCR.out (below_step HBB.out (show Below wb.heap.size wb w3.drew from below_drew HB3.out))) HLR.out HRL.out)
      have d0 : w3.cell? ⟨gD, 1, none⟩ = some vD := (blk_cell HD3.out 1).trans rfl
      have d1 : w3.cell? ⟨g, 1, none⟩ = some (.slice (some ad) l0_1.length c0_1) := (blk_cell (blk_below HNB.out HB3.out) 1).trans rfl
      have d2 : w3.cell? (ad.add y) = some (.slice Ar row.length cr) := pw_cell_below (below_step HBB.out HB3.out) HX1.out
      clear hsz HO3a
      refine start_ (n := 12) (S := fun w' => w'.cell? ⟨gD, 1, none⟩ = some vD ∧ w'.cell? ⟨g, 1, none⟩ = some (.slice (some ad) l0_1.length c0_1) ∧ w'.cell? (ad.add y) = some (.slice Ar row.length cr)) (ds := [9, 11]) #[false, false, false, false, false, false, false, false, false, false, false, false] (by kernel_rfl) rfl rfl ⟨d0, d1, d2⟩ (fun hHeld => ?_)
      refine pure_ (i := 0) (N := some 38) (v := ?_) (a' := ?_) #[true, false, false, false, false, false, false, false, false, false, false, false] rfl rfl (by kernel_rfl) (fun _ _ _ h => h) (Or.inl ⟨by rfl, ?_⟩) ?_ ?_
      rotate_left
      · intro w'
        go_simp
        with_reducible rfl
      rotate_left
      · simp only [Act.put, List.setIfInBounds_toArray, List.set_cons_zero, List.set_cons_succ, i64_w, i32_w]
        rfl
      refine pure_ (i := 2) (N := some 40) (v := ?_) (a' := ?_) #[true, false, true, false, false, false, false, false, false, false, false, false] rfl rfl (by kernel_rfl) (fun _ _ _ h => h) (Or.inl ⟨by rfl, ?_⟩) ?_ ?_
      rotate_left
      · intro w'
        go_simp
        with_reducible rfl
      rotate_left
      · simp only [Act.put, List.setIfInBounds_toArray, List.set_cons_zero, List.set_cons_succ, i64_w, i32_w]
        rfl
      refine pure_ (i := 4) (N := some 42) (v := ?_) (a' := ?_) #[true, false, true, false, true, false, false, false, false, false, false, false] rfl rfl (by kernel_rfl) (fun _ _ _ h => h) (Or.inl ⟨by rfl, ?_⟩) ?_ ?_
      rotate_left
      · intro w'
        go_simp
        with_reducible rfl
      rotate_left
      · simp only [Act.put, List.setIfInBounds_toArray, List.set_cons_zero, List.set_cons_succ, i64_w, i32_w]
        rfl
      refine take_ (i := 1) (N := some 39) (v := ?_) (a' := ?_) #[true, true, true, false, true, false, false, false, false, false, false, false] rfl rfl (by kernel_rfl) (fun _ _ _ h => h) (Or.inl ⟨by rfl, ?_⟩) hHeld ?_ ?_
      rotate_left
      · rintro w' ⟨s0, s1, s2⟩
        go_simp
        with_reducible rfl
      rotate_left
      · simp only [Act.put, List.setIfInBounds_toArray, List.set_cons_zero, List.set_cons_succ, i64_w, i32_w]
        rfl
      refine take_ (i := 3) (N := some 41) (v := ?_) (a' := ?_) #[true, true, true, true, true, false, false, false, false, false, false, false] rfl rfl (by kernel_rfl) (fun _ _ _ h => h) (Or.inl ⟨by rfl, ?_⟩) hHeld ?_ ?_
      rotate_left
      · rintro w' ⟨s0, s1, s2⟩
        go_simp
        with_reducible rfl
      rotate_left
      · simp only [Act.put, List.setIfInBounds_toArray, List.set_cons_zero, List.set_cons_succ, i64_w, i32_w]
        rfl
      refine pure_ (i := 5) (N := some 43) (v := ?_) (a' := ?_) #[true, true, true, true, true, true, false, false, false, false, false, false] rfl rfl (by kernel_rfl) (fun _ _ _ h => h) (Or.inl ⟨by rfl, ?_⟩) ?_ ?_
      rotate_left
      · intro w'
        go_simp
        with_reducible rfl
      rotate_left
      · simp only [Act.put, List.setIfInBounds_toArray, List.set_cons_zero, List.set_cons_succ, i64_w, i32_w]
        rfl
      refine take_ (i := 6) (N := some 44) (v := ?_) (a' := ?_) #[true, true, true, true, true, true, true, false, false, false, false, false] rfl rfl (by kernel_rfl) (fun _ _ _ h => h) (Or.inl ⟨by rfl, ?_⟩) hHeld ?_ ?_
      rotate_left
      · rintro w' ⟨s0, s1, s2⟩
        go_simp
        with_reducible rfl
      rotate_left
      · simp only [Act.put, List.setIfInBounds_toArray, List.set_cons_zero, List.set_cons_succ, i64_w, i32_w]
        rfl
      refine one_ (i := 7) (N := some 45) #[true, true, true, true, true, true, true, true, false, false, false, false] rfl rfl (by kernel_rfl) (by decide) (fun K hK => ?_)
      refine goes_ Try.func26 (by kernel_rfl) rfl #[.slice Ar row.length cr] (by rfl) rfl rfl (by simp only [List.map_toArray, List.map_cons, List.map_nil]; rfl) ?_
      with_reducible refine (HCL.out).mono ?_
      rintro e' w5 ⟨v5, rfl, r5, hb5⟩
      refine ⟨_, rfl, ?_⟩
      obtain ⟨A5, k5, e5⟩ := Kd.R_slice r5
      subst e5; have R5 := K0 r5; have B5 := K0 hb5; clear r5 hb5
      refine hK.out _ _ ⟨pw_cell_below B5.out hHeld.1, pw_cell_below B5.out hHeld.2.1, pw_cell_below B5.out hHeld.2.2⟩ (fun hHeld => ?_)
      clear hK K
      refine norm_ (a' := ?_) ?_ ?_
      rotate_left
      · show Act.put _ (some 45) _ = _
        simp only [Act.put, List.setIfInBounds_toArray, List.set_cons_zero, List.set_cons_succ, i64_w, i32_w]
        rfl
      refine one_ (i := 8) (N := some 46) #[true, true, true, true, true, true, true, true, true, false, false, false] rfl rfl (by kernel_rfl) (by decide) (fun K hK => ?_)
      refine value_ (w1 := ?_) (v := ?_) (by rfl) rfl ?_ ?_
      rotate_left 2
      · go_simp
        constructor
        · rfl
        rfl
      refine hK.out _ _ ⟨pw_cell_below (below_alloc (Below.refl _ _) _) hHeld.1, pw_cell_below (below_alloc (Below.refl _ _) _) hHeld.2.1, pw_cell_below (below_alloc (Below.refl _ _) _) hHeld.2.2⟩ (fun hHeld => ?_)
      clear hK K
      refine norm_ (a' := ?_) ?_ ?_
      rotate_left
      · show Act.put _ (some 46) _ = _
        simp only [Act.put, List.setIfInBounds_toArray, List.set_cons_zero, List.set_cons_succ, i64_w, i32_w]
        rfl
      refine last_ (i := 9) (N := some 47) #[true, true, true, true, true, true, true, true, true, true, false, false] rfl rfl (by kernel_rfl) (by decide) (fun K hK => ?_)
      refine Kd.R_append_step (Kd.slice 3 (Kd.int .i64)) (w0 := wb) (W := w5) wb.heap.size (by rfl) (.tmp 39) (.tmp 46) 22 29 (.slice none 0 0) 24 rfl Try.underlying22 (by kernel_rfl) rfl (by decide) (by decide) vD (rowsOf l0_1 (b1.take j)) row [.slice A5 row.length k5] (fun k => gD < k) (fun k => sz ≤ k) (by rfl) (by rfl) ⟨_, rfl, Kd.R_mono (Kd.R_lower (Kd.R_bound R5.out) (show wb.heap.size ≤ w3.drew.heap.size from HB3.out.size)) (fun k hk => by have := hk.2.1; exact HSZ.out ▸ this)⟩ (fun k hk => ⟨by have := HGS.out; omega, fun e => by have := (HO3.out.1 k e.symm).2; omega⟩) (fun k hk => by have := B5.out.size; have := HGS.out; have := HSZ.out; have e : w3.drew.heap.size = w3.heap.size := rfl; omega) (Kd.R_mono (Kd.R_below HO3.out B5.out) (fun k hk => hk.1)) (below_step (show Below wb.heap.size wb w3.drew from below_drew HB3.out) B5.out) (Nat.le_trans HB3.out.size B5.out.size) HLN.out ?_
      intro v6 w6 r6 hb6 hg6 hat6
      obtain ⟨A6, k6, e6⟩ := Kd.R_slice r6
      subst e6; have HR6 := K0 r6; have HB6 := K0 hb6
      have hne6 : ∀ k, k ≤ gD → some k ≠ vD.ownBlock := fun k hk e => by have := HO3.out.1 k e.symm; omega
      have HD6 := K0 (blk_grown (blk_below (show w3.drew.heap[gD]? = _ from HD3.out) B5.out) hg6 (hne6 gD (Nat.le_refl _)))
      have HM6 := K0 ((MapI.block (w := w3.drew) (w' := w5) (show MapI Try.prog 3 w3.drew bM _ from HM3.out.block rfl) (B5.out.block bM HM3.out.lt)).block (hg6.block bM (Nat.lt_of_lt_of_le HM3.out.lt B5.out.size) (hne6 bM (by have := HBM.out; omega))))
      have c6 : w6.cell? ⟨gD, 1, none⟩ = some vD := (blk_cell HD6.out 1).trans rfl
      have f6 : w6.frozen? ⟨gD, 1, none⟩ = false := blk_frozen HD6.out 1
      clear r6 hb6 hg6 hat6 hne6
      refine hK.out _ _ ?_
      clear hK K
      refine norm_ (a' := ?_) ?_ ?_
      rotate_left
      · show Act.put _ (some 47) _ = _
        simp only [Act.put, List.setIfInBounds_toArray, List.set_cons_zero, List.set_cons_succ, i64_w, i32_w]
        rfl
      refine pure_ (i := 10) (N := some 48) (v := ?_) (a' := ?_) #[true, true, true, true, true, true, true, true, true, true, true, false] rfl rfl (by kernel_rfl) (fun _ _ _ h => h) (Or.inl ⟨by rfl, ?_⟩) ?_ ?_
      rotate_left
      · intro w'
        go_simp
        with_reducible rfl
      rotate_left
      · simp only [Act.put, List.setIfInBounds_toArray, List.set_cons_zero, List.set_cons_succ, i64_w, i32_w]
        rfl
      refine last_ (i := 11) (N := none) #[true, true, true, true, true, true, true, true, true, true, true, true] rfl rfl (by kernel_rfl) (by decide) (fun K hK => ?_)
      refine skip_ (w1 := ?_) (by rfl) rfl ?_ ?_
      rotate_left
      · go_simp
        rfl
      refine hK.out _ _ ?_
      clear hK K
      refine done_ (by kernel_rfl) ?_
      go_wp2
      go_roundg (b1.length - (j + 1))
      case measure => have := hg.out; omega
      case rel => exact ⟨j + 1, _, (y : Int) :: Lj, _, by simp, ⟨by have := hg.out; omega⟩, ⟨HM6.out.block (Below.heap_setCell _ _ _ bM (by have := HBM.out.2; show bM ≠ gD; omega))⟩, ⟨HB6.out.setCell (show wb.heap.size ≤ gD by have := HBM.out; omega) _⟩, ⟨blk_put HD6.out 1 _ rfl⟩, ⟨by rw [show (((j + 1 : Nat) : Nat) : Int) = (j : Int) + 1 by omega]; exact HBY2.out⟩, ⟨⟨fun x hx => by
        by_cases e : x = (y : Int)
        case pos =>
          rw [e]; exact List.mem_cons_self ..
        rw [if_neg e] at hx
        exact List.mem_cons_of_mem _ (HL2.out.1 x hx), by rw [List.length_cons, HL2.out.2]⟩⟩, ⟨by rw [HROW.out]; exact Kd.R_far (p := ⟨gD, 1, none⟩) (by simpa only [List.length_append, List.length_singleton, List.length_cons, List.length_nil, Nat.zero_add] using HR6.out) (fun k hk => by show k ≠ gD; omega) _⟩⟩
  cases h
end Go.Proofs.Ytppkeonhbkahmaa.P
