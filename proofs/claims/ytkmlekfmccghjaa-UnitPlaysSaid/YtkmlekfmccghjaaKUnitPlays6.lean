import Derived.StillTailTactics
import Derived.Shelf.Abstract
import Derived.Test.YtkmlekfmccghjaaKUnitPlays1
import Derived.Test.YtkmlekfmccghjaaKUnitPlays5
import Derived.Test.YtkmlekfmccghjaaKUnitPlays2
namespace Go.Proofs.Ytkmlekfmccghjaa.P
open Go.RowKit Go.Proofs.YtkmlekfmccghjaaW.PrintWords Go.Proofs.YtkmlekfmccghjaaW.PrintLast Go.Proofs.YtkmlekfmccghjaaW.PrintMore
attribute [local go_sem] max2_int min2_int max_two min_two max_three min_three max_four min_four
set_option linter.unusedVariables false
set_option linter.unusedSimpArgs false
def ReasonP (k : Nat) (E : Eng) (L : List (List Int)) (tr : List Int) (lv : Nat → Int) (i : Nat) (x : Int) : Prop :=
  ∃ m, sequiturref17_Of.f x = some m ∧ (Lit.int .i64 m).wf = true ∧ sequiturref17_Has.f k (tr.take i) x = some false ∧ sequiturref17_Has.f k (tr.take i) (wrap64 (-x)) = some false ∧ lv (i + 1) = E.level m ∧ E.level m ≤ (E.st.length : Int) ∧
    ((E.level m = lv i + 1 ∧ E.why m < 0) ∨ (E.level m = lv i ∧ 0 ≤ E.why m ∧ E.why m < (L.length : Int) ∧ sequiturref17_Has.f k (L.getD (E.why m).toNat []) x = some true ∧ ∀ y ∈ L.getD (E.why m).toNat [], y ≠ x → sequiturref17_Has.f k (tr.take i) (wrap64 (-y)) = some true))
set_option maxRecDepth 100000 in
set_option maxHeartbeats 8000000 in
theorem sequiturlaw20_reasons.calls (k : Nat) (E : Eng) (B : Nat) (T : Tag) (p : EngP) (N : Int) (AL : Option Addr) (cL : Nat) (L : List (List Int)) (ALs : Option Addr) (nLs cLs : Nat) (Br : Bool) (A5 : Option Addr) (c5 : Nat) (tr : List Int) (lv : Nat → Int) (w : World)
    (h : EngIn w B T E p) (hr1 : Kd.C (Kd.slice 3 (Kd.int .i64)) w AL L.length L) (hr5 : Kd.C (Kd.int .i64) w A5 tr.length tr) (hc5 : tr.length ≤ c5) (hst : E.st.length < 4611686018427387904)
    (hlv : ∀ i, 0 ≤ lv i ∧ lv i < 4611686018427387904) (h0 : lv 0 = 0) (h1 : lv tr.length = (E.st.length : Int)) (hrs : ∀ (i : Nat) (x : Int), tr[i]? = some x → ReasonP k E L tr lv i x) :
    Calls Try.prog 44 #[.pointer (some ⟨B, 0, none⟩), .agg #[.int .i64 N, .slice AL L.length cL, .slice ALs nLs cLs, .bool Br], .slice A5 tr.length c5] w fun e w' => e = .returned (.bool true) ∧ Below w.heap.size w w' := by
  have hbig := hr1.2.1
  have hbig5 := hr5.2.1
  have huE := Try.underlying34
  obtain ⟨wb, hwb⟩ : ∃ wb : World, w.alloc (.cells #[.int .i64 N, .slice AL L.length cL, .slice ALs nLs cLs, .bool Br] 34) = wb := ⟨_, rfl⟩
  have hb1 : Below w.heap.size w wb := by rw [← hwb]; exact below_alloc (Below.refl _ _) _
  have nb := blk_new w (.cells #[.int .i64 N, .slice AL L.length cL, .slice ALs nLs cLs, .bool Br] 34)
  rw [hwb] at nb
  have HW := K0 hwb
  have HB := K0 hb1
  have HE := K0 (h.below hb1)
  have HR1 := K0 (Kd.C_below hr1 hb1)
  have HR5 := K0 (Kd.C_below hr5 hb1)
  have HLV := K0 hlv
  have HL1 := K0 h1
  have HRS := K0 hrs
  obtain ⟨g, hg⟩ : ∃ g, w.heap.size = g := ⟨_, rfl⟩
  have HG := K0 hg
  rw [hg] at nb
  have HN := K0 nb
  have HL0 := K0 h0
  clear h hr1 hr5 hwb hb1 nb hg h0 h1 hrs hlv
  go_enter Try.func44, Try.ntmps44
  go_upto_region 1 with fail
  rw [HW.out, HG.out]
  clear HW HG
  have HB1 := K0 (Below.refl wb.heap.size wb)
  go_wp2
  go_loopg [7, 8, 9, 10, 11, 12, 14, 17] tr.length (fun gg v7 v8 v9 v10 v11 v12 v14 v17 wr => ∃ (i : Nat) (u : Int), v17 = .int .i64 (i : Int) ∧ v7 = .int .i64 u ∧ Aside0 (u = lv i) ∧ Aside0 (i + gg = tr.length) ∧ Aside0 (Below wb.heap.size wb wr))
  case atStart => exact ⟨0, 0, rfl, rfl, ⟨HL0.out.symm⟩, ⟨by simp⟩, HB1⟩
  case round =>
    clear HB1
    obtain ⟨i, u, rfl, rfl, HU, hg, HB1⟩ := hrel
    by_cases hlt : i < tr.length
    · obtain ⟨ad, e1, x1⟩ := Kd.at_int (Kd.C_below HR5.out HB1.out) (i : Int) (by omega) (by omega)
      cases e1
      obtain ⟨x, hx⟩ : ∃ x, tr[i] = x := ⟨_, rfl⟩
      have hrd : rd tr (i : Int) = x := by simp [rd, hlt, hx]
      rw [hrd] at x1
      simp only [Int.toNat_natCast] at x1
      obtain ⟨m, m1, m2, m3, m4, m5, m6, m7⟩ := HRS.out i x (by rw [List.getElem?_eq_getElem hlt, hx])
      have htl : (tr.take i).length = i := by rw [List.length_take]; omega
      have hCt : Kd.C (Kd.int .i64) wb (some ad) (tr.take i).length (tr.take i) := Kd.C_take HR5.out (Nat.le_of_lt hlt)
      have a1 := ask_has (c := c5) hCt (by omega) m3
      have a2 := ask_has (c := c5) hCt (by omega) m4
      rw [htl] at a1 a2
      have HCT := K0 hCt
      have HTL := K0 htl
      have A1 := K0 (ask_of (wb := wb) m1)
      have A2 := K0 (ask_why HE.out m2)
      have A3 := K0 (ask_level HE.out m2)
      have A4 := K0 a1
      have A5' := K0 a2
      have A6 := K0 (ask_levels HE.out)
      obtain ⟨kv, hkv⟩ : ∃ kv, E.level m = kv := ⟨_, rfl⟩
      obtain ⟨wv, hwv⟩ : ∃ wv, E.why m = wv := ⟨_, rfl⟩
      rw [hkv] at m5 m6 m7 A3
      rw [hwv] at m7 A2
      have hl1 := HLV.out i
      rw [← HU.out] at m7 hl1
      have M5 := K0 m5
      have P0 : ((0 : Int) ≤ (i : Int)) = True := eq_true (by omega)
      have P1 : ((i : Int) < (tr.length : Int)) = True := eq_true (by omega)
      have P2 : (i < tr.length) = True := eq_true hlt
      have P3 : ((i : Int) ≤ (c5 : Int)) = True := eq_true (by omega)
      have P4 : (i ≤ c5) = True := eq_true (by omega)
      have d4 : decide ((i : Int) < (tr.length : Int)) = true := decide_eq_true (by omega)
      have d5 : decide (kv < u) = false := decide_eq_false (by rcases m7 with q | q <;> omega)
      have d6 : decide ((E.st.length : Int) < kv) = false := decide_eq_false (by omega)
      have d7 : decide (u + 1 < kv) = false := decide_eq_false (by rcases m7 with q | q <;> omega)
      have d8 : wrap64 (u + 1) = u + 1 := by unfold wrap64; omega
      have M7 := K0 m7
      clear hx hrd m1 m2 m3 m4 m5 m6 m7 hCt htl a1 a2 hkv hwv
      go_wp2_with fail
      refine (A1.out.go _ HB1.out).mono ?_
      rintro e' w3 ⟨rfl, hb3⟩
      have HB3 := K0 hb3
      clear hb3 HB1
      go_wp2_with fail
      refine (A2.out.go _ HB3.out).mono ?_
      rintro e' w4 ⟨rfl, hb4⟩
      have HB4 := K0 hb4
      clear hb4 HB3
      go_wp2_with fail
      refine (A1.out.go _ HB4.out).mono ?_
      rintro e' w5 ⟨rfl, hb5⟩
      have HB5 := K0 hb5
      clear hb5 HB4
      go_wp2_with fail
      refine (A3.out.go _ HB5.out).mono ?_
      rintro e' w6 ⟨rfl, hb6⟩
      have HB6 := K0 hb6
      clear hb6 HB5
      go_wp2_with fail
      refine (A4.out.go _ HB6.out).mono ?_
      rintro e' w7 ⟨rfl, hb7⟩
      have HB7 := K0 hb7
      clear hb7 HB6
      go_wp2_with fail
      refine (A5'.out.go _ HB7.out).mono ?_
      rintro e' w8 ⟨rfl, hb8⟩
      have HB8 := K0 hb8
      clear hb8 HB7
      go_wp2_with fail
      refine (A6.out.go _ HB8.out).mono ?_
      rintro e' w9 ⟨rfl, hb9⟩
      have HB9 := K0 hb9
      clear hb9 HB8 x1 A1 A2 A3 A4 A5' A6
      have x2 : w9.cell? ⟨g, 1, none⟩ = some (.slice AL L.length cL) := (blk_cell (blk_below HN.out HB9.out) 1).trans rfl
      rcases M7.out with ⟨f1, f2⟩ | ⟨f1, f2, f3, f4, f5⟩
      · have d9 : decide (u < kv) = true := decide_eq_true (by omega)
        have d10 : decide (wv < 0) = true := decide_eq_true (by omega)
        have d11 : decide ((L.length : Int) ≤ wv) = false := decide_eq_false (by omega)
        clear M7 f1 f2
        go_wp2
        go_roundg (tr.length - (i + 1))
        case measure => have := hg.out; omega
        case rel => exact ⟨i + 1, kv, by simp, rfl, ⟨M5.out.symm⟩, ⟨by have := hg.out; omega⟩, HB9⟩
      · obtain ⟨q, rfl⟩ : ∃ q : Nat, wv = (q : Int) := ⟨wv.toNat, by omega⟩
        have hql : q < L.length := by omega
        obtain ⟨ad2, A0, c0, e2, x3, hl0, hC0⟩ := at_L3 HR1.out (q : Int) (by omega) (by omega)
        cases e2
        obtain ⟨c, hc⟩ : ∃ c, L.getD q [] = c := ⟨_, rfl⟩
        have hrd : rd_L3 L (q : Int) = c := by rw [← hc]; simp [rd_L3]
        rw [hrd] at x3 hl0 hC0
        simp only [Int.toNat_natCast] at x3 f4 f5
        rw [hc] at f4 f5
        have A7 := K0 (ask_has hC0 hl0 f4)
        have HC0 := K0 hC0
        have HF5 := K0 f5
        have hbc := hC0.2.1
        have HX3 := K0 x3
        replace x3 := pw_cell_below HB9.out x3
        have d9 : decide (u < kv) = false := decide_eq_false (by omega)
        have d10 : decide ((q : Int) < 0) = false := decide_eq_false (by omega)
        have d11 : decide ((L.length : Int) ≤ (q : Int)) = false := decide_eq_false (by omega)
        have d12 : (L.length ≤ q) = False := eq_false (by omega)
        have Q0 : ((0 : Int) ≤ (q : Int)) = True := eq_true (by omega)
        have Q1 : ((q : Int) < (L.length : Int)) = True := eq_true (by omega)
        have Q2 : (q < L.length) = True := eq_true hql
        clear M7 f1 f2 f3 f4 f5 hrd hc hC0
        go_wp2_with fail
        refine (A7.out.go _ HB9.out).mono ?_
        rintro e' w10 ⟨rfl, hb10⟩
        have HB10 := K0 hb10
        replace x2 : w10.cell? ⟨g, 1, none⟩ = some (.slice (some ad2) L.length cL) := (blk_cell (blk_below HN.out hb10) 1).trans rfl
        replace x3 := pw_cell_below hb10 HX3.out
        clear hb10 HB9 A7
        go_wp2
        clear x2 x3
        go_loopg [14, 90] c.length (fun gg v14 v90 wi => ∃ (j : Nat), v90 = .int .i64 (j : Int) ∧ Aside0 (j + gg = c.length) ∧ Aside0 (Below wb.heap.size wb wi))
        case atStart => exact ⟨0, rfl, ⟨by simp⟩, HB10⟩
        case round =>
          clear HB10
          obtain ⟨j, rfl, hg2, HB10⟩ := hrel
          by_cases hlt2 : j < c.length
          · obtain ⟨ad3, e3, x4⟩ := Kd.at_int (Kd.C_below HC0.out HB10.out) (j : Int) (by omega) (by omega)
            cases e3
            obtain ⟨y, hy⟩ : ∃ y, c[j] = y := ⟨_, rfl⟩
            have hrd : rd c (j : Int) = y := by simp [rd, hlt2, hy]
            rw [hrd] at x4
            simp only [Int.toNat_natCast] at x4
            have S0 : ((0 : Int) ≤ (j : Int)) = True := eq_true (by omega)
            have S1 : ((j : Int) < (c.length : Int)) = True := eq_true (by omega)
            have S2 : (j < c.length) = True := eq_true hlt2
            have d13 : decide ((j : Int) < (c.length : Int)) = true := decide_eq_true (by omega)
            have hmem : y ∈ c := by rw [← hy]; exact List.getElem_mem hlt2
            clear hy hrd
            by_cases e : y = x
            · have d14 : (y != x) = false := by rw [e]; simp
              clear hmem e
              go_wp2
              go_roundg (c.length - (j + 1))
              case measure => have := hg2.out; omega
              case rel => exact ⟨j + 1, by simp, ⟨by have := hg2.out; omega⟩, HB10⟩
            · have d14 : (y != x) = true := bne_iff_ne.2 e
              have d15 : (y == x) = false := beq_eq_false_iff_ne.2 e
              have a8 := ask_has (c := c5) HCT.out (by rw [HTL.out]; omega) (HF5.out y hmem e)
              rw [HTL.out] at a8
              have A8 := K0 a8
              clear hmem e a8
              go_wp2_with fail
              refine (A8.out.go _ HB10.out).mono ?_
              rintro e' w12 ⟨rfl, hb12⟩
              have HB12 := K0 hb12
              clear hb12 HB10 A8 x4
              go_wp2
              go_roundg (c.length - (j + 1))
              case measure => have := hg2.out; omega
              case rel => exact ⟨j + 1, by simp, ⟨by have := hg2.out; omega⟩, HB12⟩
          · have d13 : decide ((j : Int) < (c.length : Int)) = false := decide_eq_false (by omega)
            have S2 : (j < c.length) = False := eq_false hlt2
            go_wp2
            go_roundg (tr.length - (i + 1))
            case measure => have := hg.out; omega
            case rel => exact ⟨i + 1, kv, by simp, rfl, ⟨M5.out.symm⟩, ⟨by have := hg.out; omega⟩, HB10⟩
    · have d4 : decide ((i : Int) < (tr.length : Int)) = false := decide_eq_false (by omega)
      have P2 : (i < tr.length) = False := eq_false hlt
      have A6 := K0 (ask_levels HE.out)
      have hu : u = (E.st.length : Int) := by rw [HU.out, ← HL1.out]; congr 1; have := hg.out; omega
      clear HU
      subst hu
      go_wp2_with fail
      refine (A6.out.go _ HB1.out).mono ?_
      rintro e' w9 ⟨rfl, hb9⟩
      have HB9 := K0 hb9
      clear hb9 HB1 A6
      go_wp2
      go_ret
      exact ⟨rfl, below_step HB.out HB9.out⟩
set_option maxRecDepth 100000 in
set_option maxHeartbeats 4000000 in
theorem sequiturlaw20_broken.calls (k : Nat) (E : Eng) (B : Nat) (T : Tag) (p : EngP) (N : Int) (AL : Option Addr) (cL : Nat) (L : List (List Int)) (ALs : Option Addr) (nLs cLs : Nat) (Br : Bool) (A5 : Option Addr) (c5 : Nat) (tr : List Int) (w : World)
    (h : EngIn w B T E p) (hr1 : Kd.C (Kd.slice 3 (Kd.int .i64)) w AL L.length L) (hr5 : Kd.C (Kd.int .i64) w A5 tr.length tr) (hc5 : tr.length ≤ c5)
    (hb : E.br < 0 ∨ (0 ≤ E.br ∧ E.br < (L.length : Int) ∧ ∀ y ∈ L.getD E.br.toNat [], sequiturref17_Has.f k tr (wrap64 (-y)) = some true)) :
    Calls Try.prog 45 #[.pointer (some ⟨B, 0, none⟩), .agg #[.int .i64 N, .slice AL L.length cL, .slice ALs nLs cLs, .bool Br], .slice A5 tr.length c5] w fun e w' => e = .returned (.bool true) ∧ Below w.heap.size w w' := by
  have hbig := hr1.2.1
  have huE := Try.underlying34
  obtain ⟨wb, hwb⟩ : ∃ wb : World, w.alloc (.cells #[.int .i64 N, .slice AL L.length cL, .slice ALs nLs cLs, .bool Br] 34) = wb := ⟨_, rfl⟩
  have hb1 : Below w.heap.size w wb := by rw [← hwb]; exact below_alloc (Below.refl _ _) _
  have nb := blk_new w (.cells #[.int .i64 N, .slice AL L.length cL, .slice ALs nLs cLs, .bool Br] 34)
  rw [hwb] at nb
  have HW := K0 hwb
  have HB := K0 hb1
  have HAB := K0 (ask_broken (h.below hb1))
  have HR1 := K0 (Kd.C_below hr1 hb1)
  have HR5 := K0 (Kd.C_below hr5 hb1)
  have HH := K0 hb
  obtain ⟨g, hg⟩ : ∃ g, w.heap.size = g := ⟨_, rfl⟩
  have HG := K0 hg
  rw [hg] at nb
  have HN := K0 nb
  clear h hr1 hr5 hb hwb hb1 nb hg
  go_enter Try.func45, Try.ntmps45
  go_upto_region 1 with fail
  rw [HW.out, HG.out]
  go_wp2_with fail
  refine (HAB.out.go _ (Below.refl _ _)).mono ?_
  rintro e' w1 ⟨rfl, hb1⟩
  have HB1 := K0 hb1
  clear hb1 HAB HW HG
  rcases HH.out with hlt | ⟨h0, h1, h2⟩
  · have d : decide (E.br < 0) = true := decide_eq_true hlt
    go_wp2
    go_ret
    exact ⟨rfl, below_step HB.out HB1.out⟩
  · obtain ⟨q, hq⟩ : ∃ q : Nat, E.br = (q : Int) := ⟨E.br.toNat, by omega⟩
    rw [hq] at h0 h1 h2 ⊢
    have hql : q < L.length := by omega
    obtain ⟨ad, A0, c0, e1, x1, hl0, hC0⟩ := at_L3 HR1.out (q : Int) (by omega) (by omega)
    cases e1
    obtain ⟨c, hc⟩ : ∃ c, L.getD q [] = c := ⟨_, rfl⟩
    have hrd : rd_L3 L (q : Int) = c := by rw [← hc]; simp [rd_L3]
    rw [hrd] at x1 hl0 hC0
    simp only [Int.toNat_natCast] at x1 h2
    rw [hc] at h2
    have HH2 := K0 h2
    have HC0 := K0 hC0
    replace x1 := pw_cell_below HB1.out x1
    have x2 : w1.cell? ⟨g, 1, none⟩ = some (.slice (some ad) L.length cL) := (blk_cell (blk_below HN.out HB1.out) 1).trans rfl
    have hbc := hC0.2.1
    have d : decide ((q : Int) < 0) = false := decide_eq_false (by omega)
    have Q0 : ((0 : Int) ≤ (q : Int)) = True := eq_true (by omega)
    have Q1 : ((q : Int) < (L.length : Int)) = True := eq_true (by omega)
    have Q2 : (q < L.length) = True := eq_true hql
    have d2 : decide ((L.length : Int) ≤ (q : Int)) = false := decide_eq_false (by omega)
    have d3 : decide (L.length ≤ q) = false := decide_eq_false (by omega)
    have d5 : (L.length ≤ q) = False := eq_false (by omega)
    clear h0 h1 h2 hq hC0 hrd hc HH
    go_wp2
    clear x1 x2
    go_loopg [9, 25] c.length (fun gg v9 v25 wr => ∃ (j : Nat), v25 = .int .i64 (j : Int) ∧ Aside0 (j + gg = c.length) ∧ Aside0 (Below wb.heap.size wb wr))
    case atStart => exact ⟨0, rfl, ⟨by simp⟩, HB1⟩
    case round =>
      clear HB1
      obtain ⟨j, rfl, hg, HB1⟩ := hrel
      by_cases hlt : j < c.length
      · obtain ⟨ad2, e2, x2⟩ := Kd.at_int (Kd.C_below HC0.out HB1.out) (j : Int) (by omega) (by omega)
        cases e2
        obtain ⟨y, hy⟩ : ∃ y, c[j] = y := ⟨_, rfl⟩
        have hrd : rd c (j : Int) = y := by simp [rd, hlt, hy]
        rw [hrd] at x2
        simp only [Int.toNat_natCast] at x2
        have HAS := K0 (ask_has HR5.out hc5 (HH2.out y (by rw [← hy]; exact List.getElem_mem hlt)))
        have P0 : ((0 : Int) ≤ (j : Int)) = True := eq_true (by omega)
        have P1 : ((j : Int) < (c.length : Int)) = True := eq_true (by omega)
        have P2 : (j < c.length) = True := eq_true hlt
        have d4 : decide ((j : Int) < (c.length : Int)) = true := decide_eq_true (by omega)
        clear hy hrd
        go_wp2_with fail
        refine (HAS.out.go _ HB1.out).mono ?_
        rintro e' w3 ⟨rfl, hb3⟩
        have HB3 := K0 hb3
        clear hb3 x2 HAS
        go_wp2
        go_roundg (c.length - (j + 1))
        case measure => have := hg.out; omega
        case rel => exact ⟨j + 1, by simp, ⟨by have := hg.out; omega⟩, HB3⟩
      · have d4 : decide ((j : Int) < (c.length : Int)) = false := decide_eq_false (by omega)
        have P2 : (j < c.length) = False := eq_false hlt
        go_wp2
        go_ret
        exact ⟨rfl, below_step HB.out HB1.out⟩
structure LikeP (k : Nat) (E : Eng) (N : Int) (L Ls : List (List Int)) (Br : Bool) (lv : Nat → Int) : Prop where
  short : E.tr.length < 1099511627776
  n : 0 ≤ N ∧ N < 1099511627776
  br : decide (0 ≤ E.br) = Br
  lev : Ls.length = E.st.length + 1
  each : Br = false → ∀ (j : Nat) (l : List Int), Ls[j]? = some l → ∀ x ∈ l, (Lit.int .i64 x).wf = true ∧ sequiturref17_Has.f k E.tr x = some true ∧ E.val x = 1 ∧ E.val (wrap64 (-x)) = -1 ∧ ∃ m, sequiturref17_Of.f x = some m ∧ (Lit.int .i64 m).wf = true ∧ E.level m = (j : Int)
  sum : Ls.flatten.length < 1099511627776
  all : Br = false → Ls.flatten.length = E.tr.length
  vars : ∀ v : Int, -1 ≤ v → v ≤ N + 1 → ∃ a b, sequiturref17_Has.f k E.tr v = some a ∧ sequiturref17_Has.f k E.tr (wrap64 (-v)) = some b ∧ (v ≤ 0 ∨ (a || b) = false → E.level v = -1 ∧ E.why v = -1) ∧ ((a || b) = false → E.val v = 0)
  lvs : ∀ i, 0 ≤ lv i ∧ lv i < 4611686018427387904
  lv0 : lv 0 = 0
  lv1 : lv E.tr.length = (E.st.length : Int)
  why : ∀ (i : Nat) (x : Int), E.tr[i]? = some x → ReasonP k E L E.tr lv i x
  bad : E.br < 0 ∨ (0 ≤ E.br ∧ E.br < (L.length : Int) ∧ ∀ y ∈ L.getD E.br.toNat [], sequiturref17_Has.f k E.tr (wrap64 (-y)) = some true)
theorem wf_small {v : Int} (h : -1 ≤ v) (h2 : v < 4611686018427387904) : (Lit.int .i64 v).wf = true := by
  simp only [Lit.wf, Bool.and_eq_true, decide_eq_true_eq]
  have a : IntKind.i64.min = -9223372036854775808 := by decide
  have b : IntKind.i64.max = 9223372036854775807 := by decide
  omega
theorem flat_take (Ls : List (List Int)) (j : Nat) (h : j < Ls.length) : (Ls.take (j + 1)).flatten.length = (Ls.take j).flatten.length + Ls[j].length := by
  rw [List.take_add_one, List.getElem?_eq_getElem h, List.flatten_append, List.length_append]
  simp
theorem flat_take_le (Ls : List (List Int)) (j : Nat) : (Ls.take j).flatten.length ≤ Ls.flatten.length := by
  have e : Ls.flatten = (Ls.take j).flatten ++ (Ls.drop j).flatten := by rw [← List.flatten_append, List.take_append_drop]
  rw [e, List.length_append]; omega
set_option maxRecDepth 100000 in
set_option maxHeartbeats 8000000 in
theorem sequiturlaw20_like.calls (k : Nat) (E : Eng) (B : Nat) (T : Tag) (p : EngP) (N : Int) (AL : Option Addr) (cL : Nat) (L : List (List Int)) (ALs : Option Addr) (cLs : Nat) (Ls : List (List Int)) (Br : Bool) (lv : Nat → Int) (w : World)
    (h : EngIn w B T E p) (hr1 : Kd.C (Kd.slice 3 (Kd.int .i64)) w AL L.length L) (hr2 : Kd.C (Kd.slice 3 (Kd.int .i64)) w ALs Ls.length Ls) (hp : LikeP k E N L Ls Br lv) :
    Calls Try.prog 13 #[.pointer (some ⟨B, 0, none⟩), .agg #[.int .i64 N, .slice AL L.length cL, .slice ALs Ls.length cLs, .bool Br]] w fun e w' => e = .returned (.bool true) ∧ Below w.heap.size w w' := by
  have hbigL := hr1.2.1
  have hbig := hr2.2.1
  have huE := Try.underlying34
  have hsum := hp.sum
  have hnb := hp.n
  have htl := hp.short
  have HP := K0 hp
  obtain ⟨w1, hw1⟩ : ∃ w1 : World, w.alloc (.cells #[.int .i64 N, .slice AL L.length cL, .slice ALs Ls.length cLs, .bool Br] 34) = w1 := ⟨_, rfl⟩
  have hb1 : Below w.heap.size w w1 := by rw [← hw1]; exact below_alloc (Below.refl _ _) _
  have nb := blk_new w (.cells #[.int .i64 N, .slice AL L.length cL, .slice ALs Ls.length cLs, .bool Br] 34)
  rw [hw1] at nb
  have HT := K0 (eng_Trail.calls E B T p w1 (h.below hb1) (by omega))
  have HE1 := K0 (h.below hb1)
  have HW := K0 hw1; have HB0 := K0 hb1
  have HR1a := K0 (Kd.C_below hr1 hb1)
  have HR2a := K0 (Kd.C_below hr2 hb1)
  obtain ⟨g, hg⟩ : ∃ g, w.heap.size = g := ⟨_, rfl⟩
  have HG := K0 hg
  rw [hg] at nb
  have HN1 := K0 nb; clear h hr1 hr2 hp hw1 hb1 nb hg
  go_enter Try.func13, Try.ntmps13
  go_upto_region 1 with fail
  rw [HW.out, HG.out]
  clear HW HG
  go_wp2_with fail
  refine HT.out.mono ?_
  rintro e' wb ⟨v5, rfl, r5, hb5⟩
  have HN := K0 (blk_below HN1.out hb5)
  have HE := K0 (HE1.out.below hb5)
  have HR1 := K0 (Kd.C_below HR1a.out hb5)
  have HR2 := K0 (Kd.C_below HR2a.out hb5)
  have HB := K0 (below_step HB0.out hb5)
  obtain ⟨A5, c5, e5⟩ := Kd.R_slice r5
  subst e5
  have HR5 := K0 (Kd.V_reads' (Kd.R_V (base' := 0) r5)).2.2
  have hc5 : E.tr.length ≤ c5 := (Kd.V_reads' (Kd.R_V (base' := 0) r5)).2.1
  obtain ⟨tr, htr⟩ : ∃ tr, E.tr = tr := ⟨_, rfl⟩
  have HTR := K0 htr
  rw [htr] at HR5 hc5 htl ⊢
  clear r5 hb5 HT HN1 HE1 HR1a HR2a HB0 htr
  have AB := K0 (ask_broken HE.out)
  have AV := K0 (ask_levels HE.out)
  have d0 : wb.cell? ⟨g, 3, none⟩ = some (.bool Br) := (blk_cell HN.out 3).trans rfl
  have d1 : wb.cell? ⟨g, 2, none⟩ = some (.slice ALs Ls.length cLs) := (blk_cell HN.out 2).trans rfl
  have dbr : decide (0 ≤ E.br) = Br := HP.out.br
  have dlv : (((E.st.length : Nat) : Int) != (Ls.length : Int) - 1) = false := by rw [HP.out.lev]; simp
  have dlw : (((E.st.length : Nat) : Int) != wrap64 ((Ls.length : Int) - 1)) = false := by
    rw [show wrap64 ((Ls.length : Int) - 1) = (Ls.length : Int) - 1 by have := HP.out.lev; unfold wrap64; omega]; exact dlv
  have dbb : (Br != Br) = false := bne_self_eq_false Br
  go_upto_region 2 with fail
  refine start_ (n := 15) (S := fun w' => w'.cell? ⟨g, 3, none⟩ = some (.bool Br) ∧ w'.cell? ⟨g, 2, none⟩ = some (.slice ALs Ls.length cLs)) (ds := []) #[false, false, false, false, false, false, false, false, false, false, false, false, false, false, false] (by kernel_rfl) rfl rfl ⟨d0, d1⟩ (fun hHeld => ?_)
  refine pure_ (i := 0) (N := some 15) (v := ?_) (a' := ?_) #[true, false, false, false, false, false, false, false, false, false, false, false, false, false, false] rfl rfl (by kernel_rfl) (fun _ _ _ h => h) (Or.inl ⟨by rfl, ?_⟩) ?_ ?_
  rotate_left
  · intro w'
    go_simp
    with_reducible rfl
  rotate_left
  · simp only [Act.put, List.setIfInBounds_toArray, List.set_cons_zero, List.set_cons_succ, i64_w, i32_w]
    rfl
  refine pure_ (i := 3) (N := some 18) (v := ?_) (a' := ?_) #[true, false, false, true, false, false, false, false, false, false, false, false, false, false, false] rfl rfl (by kernel_rfl) (fun _ _ _ h => h) (Or.inl ⟨by rfl, ?_⟩) ?_ ?_
  rotate_left
  · intro w'
    go_simp
    with_reducible rfl
  rotate_left
  · simp only [Act.put, List.setIfInBounds_toArray, List.set_cons_zero, List.set_cons_succ, i64_w, i32_w]
    rfl
  refine take_ (i := 4) (N := some 19) (v := ?_) (a' := ?_) #[true, false, false, true, true, false, false, false, false, false, false, false, false, false, false] rfl rfl (by kernel_rfl) (fun _ _ _ h => h) (Or.inl ⟨by rfl, ?_⟩) hHeld ?_ ?_
  rotate_left
  · rintro w' ⟨s0, s1⟩
    go_simp
    with_reducible rfl
  rotate_left
  · simp only [Act.put, List.setIfInBounds_toArray, List.set_cons_zero, List.set_cons_succ, i64_w, i32_w]
    rfl
  refine one_ (i := 1) (N := some 16) #[true, true, false, true, true, false, false, false, false, false, false, false, false, false, false] rfl rfl (by kernel_rfl) (by decide) (fun K hK => ?_)
  refine goes_ Try.func24 (by kernel_rfl) rfl #[.pointer (some ⟨B, 0, none⟩)] (by rfl) rfl rfl (by simp only [List.map_toArray, List.map_cons, List.map_nil]; rfl) ?_
  with_reducible refine (AB.out.go _ (below_drew (Below.refl _ _))).mono ?_
  rintro e' w3 ⟨rfl, hb3⟩
  refine ⟨_, rfl, ?_⟩
  have HB3 := K0 hb3; clear hb3
  refine hK.out _ _ ⟨(blk_cell (blk_below HN.out HB3.out) 3), (blk_cell (blk_below HN.out HB3.out) 2)⟩ (fun hHeld => ?_)
  clear hK K
  refine norm_ (a' := ?_) ?_ ?_
  rotate_left
  · show Act.put _ (some 16) _ = _
    simp only [Act.put, List.setIfInBounds_toArray, List.set_cons_zero, List.set_cons_succ, i64_w, i32_w]
    rfl
  refine pure_ (i := 2) (N := some 17) (v := ?_) (a' := ?_) #[true, true, true, true, true, false, false, false, false, false, false, false, false, false, false] rfl rfl (by kernel_rfl) (fun _ _ _ h => h) (Or.inl ⟨by rfl, ?_⟩) ?_ ?_
  rotate_left
  · intro w'
    go_simp
    with_reducible rfl
  rotate_left
  · simp only [Act.put, List.setIfInBounds_toArray, List.set_cons_zero, List.set_cons_succ, i64_w, i32_w]
    rfl
  refine pure_ (i := 5) (N := some 20) (v := ?_) (a' := ?_) #[true, true, true, true, true, true, false, false, false, false, false, false, false, false, false] rfl rfl (by kernel_rfl) (fun _ _ _ h => h) (Or.inl ⟨by rfl, ?_⟩) ?_ ?_
  rotate_left
  · intro w'
    go_simp
    with_reducible rfl
  rotate_left
  · simp only [Act.put, List.setIfInBounds_toArray, List.set_cons_zero, List.set_cons_succ, i64_w, i32_w]
    rfl
  refine pure_ (i := 6) (N := some 21) (v := ?_) (a' := ?_) #[true, true, true, true, true, true, true, false, false, false, false, false, false, false, false] rfl rfl (by kernel_rfl) (fun _ _ _ h => h) (Or.inl ⟨by rfl, ?_⟩) ?_ ?_
  rotate_left
  · intro w'
    go_simp
    with_reducible rfl
  rotate_left
  · simp only [Act.put, List.setIfInBounds_toArray, List.set_cons_zero, List.set_cons_succ, i64_w, i32_w]
    rfl
  refine pure_ (i := 7) (N := some 22) (v := ?_) (a' := ?_) #[true, true, true, true, true, true, true, true, false, false, false, false, false, false, false] rfl rfl (by kernel_rfl) (fun _ _ _ h => h) (Or.inl ⟨by rfl, ?_⟩) ?_ ?_
  rotate_left
  · intro w'
    go_simp
    with_reducible rfl
  rotate_left
  · simp only [Act.put, List.setIfInBounds_toArray, List.set_cons_zero, List.set_cons_succ, i64_w, i32_w]
    rfl
  refine pure_ (i := 9) (N := some 24) (v := ?_) (a' := ?_) #[true, true, true, true, true, true, true, true, false, true, false, false, false, false, false] rfl rfl (by kernel_rfl) (fun _ _ _ h => h) (Or.inl ⟨by rfl, ?_⟩) ?_ ?_
  rotate_left
  · intro w'
    go_simp
    with_reducible rfl
  rotate_left
  · simp only [Act.put, List.setIfInBounds_toArray, List.set_cons_zero, List.set_cons_succ, i64_w, i32_w]
    rfl
  refine take_ (i := 10) (N := some 25) (v := ?_) (a' := ?_) #[true, true, true, true, true, true, true, true, false, true, true, false, false, false, false] rfl rfl (by kernel_rfl) (fun _ _ _ h => h) (Or.inl ⟨by rfl, ?_⟩) hHeld ?_ ?_
  rotate_left
  · rintro w' ⟨s0, s1⟩
    go_simp
    with_reducible rfl
  rotate_left
  · simp only [Act.put, List.setIfInBounds_toArray, List.set_cons_zero, List.set_cons_succ, i64_w, i32_w]
    rfl
  refine pure_ (i := 11) (N := some 26) (v := ?_) (a' := ?_) #[true, true, true, true, true, true, true, true, false, true, true, true, false, false, false] rfl rfl (by kernel_rfl) (fun _ _ _ h => h) (Or.inl ⟨by rfl, ?_⟩) ?_ ?_
  rotate_left
  · intro w'
    go_simp
    with_reducible rfl
  rotate_left
  · simp only [Act.put, List.setIfInBounds_toArray, List.set_cons_zero, List.set_cons_succ, i64_w, i32_w]
    rfl
  refine pure_ (i := 12) (N := some 27) (v := ?_) (a' := ?_) #[true, true, true, true, true, true, true, true, false, true, true, true, true, false, false] rfl rfl (by kernel_rfl) (fun _ _ _ h => h) (Or.inl ⟨by rfl, ?_⟩) ?_ ?_
  rotate_left
  · intro w'
    go_simp
    with_reducible rfl
  rotate_left
  · simp only [Act.put, List.setIfInBounds_toArray, List.set_cons_zero, List.set_cons_succ, i64_w, i32_w]
    rfl
  refine one_ (i := 8) (N := some 23) #[true, true, true, true, true, true, true, true, true, true, true, true, true, false, false] rfl rfl (by kernel_rfl) (by decide) (fun K hK => ?_)
  refine goes_ Try.func26 (by kernel_rfl) rfl #[.pointer (some ⟨B, 0, none⟩)] (by rfl) rfl rfl (by simp only [List.map_toArray, List.map_cons, List.map_nil]; rfl) ?_
  with_reducible refine (AV.out.go _ HB3.out).mono ?_
  rintro e' w4 ⟨rfl, hb4⟩
  refine ⟨_, rfl, ?_⟩
  have HB4 := K0 hb4; clear hb4 HB3
  refine hK.out _ _ ⟨(blk_cell (blk_below HN.out HB4.out) 3), (blk_cell (blk_below HN.out HB4.out) 2)⟩ (fun hHeld => ?_)
  clear hK K
  refine norm_ (a' := ?_) ?_ ?_
  rotate_left
  · show Act.put _ (some 23) _ = _
    simp only [Act.put, List.setIfInBounds_toArray, List.set_cons_zero, List.set_cons_succ, i64_w, i32_w]
    rfl
  refine pure_ (i := 13) (N := some 28) (v := ?_) (a' := ?_) #[true, true, true, true, true, true, true, true, true, true, true, true, true, true, false] rfl rfl (by kernel_rfl) (fun _ _ _ h => h) (Or.inl ⟨by rfl, ?_⟩) ?_ ?_
  rotate_left
  · intro w'
    go_simp
    with_reducible rfl
  rotate_left
  · simp only [Act.put, List.setIfInBounds_toArray, List.set_cons_zero, List.set_cons_succ, i64_w, i32_w]
    rfl
  refine pure_ (i := 14) (N := some 29) (v := ?_) (a' := ?_) #[true, true, true, true, true, true, true, true, true, true, true, true, true, true, true] rfl rfl (by kernel_rfl) (fun _ _ _ h => h) (Or.inl ⟨by rfl, ?_⟩) ?_ ?_
  rotate_left
  · intro w'
    go_simp
    with_reducible rfl
  rotate_left
  · simp only [Act.put, List.setIfInBounds_toArray, List.set_cons_zero, List.set_cons_succ, i64_w, i32_w]
    rfl
  refine done_ (by kernel_rfl) ?_
  go_wp2
  clear d0 d1 dbr dlv dlw dbb AB AV
  go_loopg [6, 7, 8, 10, 33] Ls.length (fun gg v6 v7 v8 v10 v33 wr => ∃ (j : Nat) (u : Nat), v33 = .int .i64 (j : Int) ∧ v6 = .int .i64 (u : Int) ∧ Aside0 (u = (Ls.take j).flatten.length) ∧ Aside0 (j + gg = Ls.length) ∧ Aside0 (Below wb.heap.size wb wr))
  case atStart => exact ⟨0, 0, rfl, rfl, ⟨rfl⟩, ⟨by simp⟩, HB4⟩
  case round =>
    clear HB4
    obtain ⟨j, u, rfl, rfl, HU, hg, HB1⟩ := hrel
    by_cases hlt : j < Ls.length
    case pos =>
      obtain ⟨ad, A0, c0, e1, x1, hl0, hC0⟩ := at_L3 HR2.out (j : Int) (by omega) (by omega)
      cases e1
      obtain ⟨l, hl⟩ : ∃ l, Ls[j] = l := ⟨_, rfl⟩
      have hrd : rd_L3 Ls (j : Int) = l := by rw [← hl]; simp [rd_L3, hlt]
      rw [hrd] at x1 hl0 hC0
      simp only [Int.toNat_natCast] at x1
      have hft := flat_take Ls j hlt
      rw [hl] at hft
      have hfl := flat_take_le Ls (j + 1)
      have hub : u + l.length < 1099511627776 := by have := HU.out; omega
      have HU2 := K0 (show u + l.length = (Ls.take (j + 1)).flatten.length by rw [hft, ← HU.out])
      have HEA := K0 (fun hB x hx => HP.out.each hB j l (by rw [List.getElem?_eq_getElem hlt, hl]) x hx)
      have HC0 := K0 hC0
      replace x1 := pw_cell_below HB1.out x1
      have P0 : ((0 : Int) ≤ (j : Int)) = True := eq_true (by omega)
      have P1 : ((j : Int) < (Ls.length : Int)) = True := eq_true (by omega)
      have P2 : (j < Ls.length) = True := eq_true hlt
      have d4 : decide ((j : Int) < (Ls.length : Int)) = true := decide_eq_true (by omega)
      clear hl hrd hft hfl hC0
      go_wp2
      clear x1
      go_loopg [10, 44] l.length (fun gg v10 v44 wi => ∃ (i : Nat), v44 = .int .i64 (i : Int) ∧ Aside0 (i + gg = l.length) ∧ Aside0 (Below wb.heap.size wb wi))
      case atStart => exact ⟨0, rfl, ⟨by simp⟩, HB1⟩
      case round =>
        clear HB1
        obtain ⟨i, rfl, hg2, HB1⟩ := hrel
        by_cases hlt2 : i < l.length
        case neg =>
          have d5 : decide ((i : Int) < (l.length : Int)) = false := decide_eq_false (by omega)
          have S2 : (i < l.length) = False := eq_false hlt2
          go_wp2
          go_roundg (Ls.length - (j + 1))
          case measure => have := hg.out; omega
          case rel => exact ⟨j + 1, u + l.length, by simp, by simp, HU2, ⟨by have := hg.out; omega⟩, HB1⟩
        obtain ⟨ad2, e2, x2⟩ := Kd.at_int (Kd.C_below HC0.out HB1.out) (i : Int) (by omega) (by omega)
        cases e2
        obtain ⟨x, hx⟩ : ∃ x, l[i] = x := ⟨_, rfl⟩
        have hrd : rd l (i : Int) = x := by simp [rd, hlt2, hx]
        rw [hrd] at x2
        simp only [Int.toNat_natCast] at x2
        have S0 : ((0 : Int) ≤ (i : Int)) = True := eq_true (by omega)
        have S1 : ((i : Int) < (l.length : Int)) = True := eq_true (by omega)
        have S2 : (i < l.length) = True := eq_true hlt2
        have d5 : decide ((i : Int) < (l.length : Int)) = true := decide_eq_true (by omega)
        have hmem : x ∈ l := by rw [← hx]; exact List.getElem_mem hlt2
        have xB : wr.cell? ⟨g, 3, none⟩ = some (.bool Br) := (blk_cell (blk_below HN.out HB1.out) 3).trans rfl
        clear hx hrd
        obtain hBr | hBr : Br = true ∨ Br = false := by cases Br <;> simp
        · rw [hBr] at xB
          clear hmem hBr
          go_wp2
          go_roundg (l.length - (i + 1))
          case measure => have := hg2.out; omega
          case rel => exact ⟨i + 1, by simp, ⟨by have := hg2.out; omega⟩, HB1⟩
        rw [hBr] at xB
        obtain ⟨q1, q2, q3, q4, m, q5, q6, q7⟩ := HEA.out hBr x hmem
        have a3 := ask_level HE.out q6
        have a4 := ask_value HE.out q1
        have a5 := ask_value HE.out (wf_wrap x)
        rw [q7] at a3
        rw [q3] at a4
        rw [q4] at a5
        rw [HTR.out] at q2
        have A1 := K0 (ask_has HR5.out hc5 q2)
        have A2 := K0 (ask_of (wb := wb) q5)
        have A3 := K0 a3; have A4 := K0 a4; have A5q := K0 a5; clear q1 q2 q3 q4 q5 q6 q7 a3 a4 a5 hmem hBr
        go_wp2_with fail
        refine (A1.out.go _ HB1.out).mono ?_
        rintro e' wz1 ⟨rfl, hz1⟩
        have HZ1 := K0 hz1; clear hz1 HB1
        go_wp2_with fail
        refine (A2.out.go _ HZ1.out).mono ?_
        rintro e' wz2 ⟨rfl, hz2⟩
        have HZ2 := K0 hz2; clear hz2 HZ1
        go_wp2_with fail
        refine (A3.out.go _ HZ2.out).mono ?_
        rintro e' wz3 ⟨rfl, hz3⟩
        have HZ3 := K0 hz3; clear hz3 HZ2
        go_wp2_with fail
        refine (A4.out.go _ HZ3.out).mono ?_
        rintro e' wz4 ⟨rfl, hz4⟩
        have HZ4 := K0 hz4; clear hz4 HZ3
        go_wp2_with fail
        refine (A5q.out.go _ HZ4.out).mono ?_
        rintro e' wz5 ⟨rfl, hz5⟩
        have HZ5 := K0 hz5; clear hz5 HZ4
        go_wp2
        go_roundg (l.length - (i + 1))
        case measure => have := hg2.out; omega
        case rel => exact ⟨i + 1, by simp, ⟨by have := hg2.out; omega⟩, HZ5⟩
    have d4 : decide ((j : Int) < (Ls.length : Int)) = false := decide_eq_false (by omega)
    have P2 : (j < Ls.length) = False := eq_false hlt
    have hu : u = Ls.flatten.length := by rw [HU.out, List.take_of_length_le (by omega)]
    have xB : wr.cell? ⟨g, 3, none⟩ = some (.bool Br) := (blk_cell (blk_below HN.out HB1.out) 3).trans rfl
    have xN : wr.cell? ⟨g, 0, none⟩ = some (.int .i64 N) := (blk_cell (blk_below HN.out HB1.out) 0).trans rfl
    obtain hBr | hBr : Br = true ∨ Br = false := by cases Br <;> simp
    · rw [hBr] at xB
      clear hu HU
      go_wp2
      clear xB xN
      go_loopg [11, 12] (N + 3).toNat (fun gg v11 v12 wi => ∃ (v : Int), v11 = .int .i64 v ∧ Aside0 (v + (gg : Int) = N + 2) ∧ Aside0 (-1 ≤ v) ∧ Aside0 (Below wb.heap.size wb wi))
      case atStart => exact ⟨-1, rfl, ⟨by omega⟩, ⟨by omega⟩, HB1⟩
      case round =>
        clear HB1 hBr
        obtain ⟨v, rfl, hg, HV, HB1⟩ := hrel
        have xN : wr.cell? ⟨g, 0, none⟩ = some (.int .i64 N) := (blk_cell (blk_below HN.out HB1.out) 0).trans rfl
        by_cases hvle : v ≤ N + 1
        case neg =>
          have dN : decide (v ≤ N + 1) = false := decide_eq_false hvle
          have x0 : wr.cell? ⟨g, 0, none⟩ = some (.int .i64 N) := xN
          have x1 : wr.cell? ⟨g, 1, none⟩ = some (.slice AL L.length cL) := (blk_cell (blk_below HN.out HB1.out) 1).trans rfl
          have x2 : wr.cell? ⟨g, 2, none⟩ = some (.slice ALs Ls.length cLs) := (blk_cell (blk_below HN.out HB1.out) 2).trans rfl
          have x3 : wr.cell? ⟨g, 3, none⟩ = some (.bool Br) := (blk_cell (blk_below HN.out HB1.out) 3).trans rfl
          have hwhy := HP.out.why
          have hbad := HP.out.bad
          have hlv1 := HP.out.lv1
          rw [HTR.out] at hwhy hbad hlv1
          have HRS := K0 (fun (W : World) (hb : Below wb.heap.size wb W) => sequiturlaw20_reasons.calls k E B T p N AL cL L ALs Ls.length cLs Br A5 c5 tr lv W (HE.out.below hb) (Kd.C_below HR1.out hb) (Kd.C_below HR5.out hb) hc5 (by have h1 := HP.out.lvs E.tr.length; have h2 := HP.out.lv1; omega) HP.out.lvs HP.out.lv0 hlv1 hwhy)
          have HBR := K0 (fun (W : World) (hb : Below wb.heap.size wb W) => sequiturlaw20_broken.calls k E B T p N AL cL L ALs Ls.length cLs Br A5 c5 tr W (HE.out.below hb) (Kd.C_below HR1.out hb) (Kd.C_below HR5.out hb) hc5 hbad)
          clear hwhy hbad hlv1 hvle
          go_wp2_with fail
          refine (HRS.out _ HB1.out).mono ?_
          rintro e' w8 ⟨rfl, hb8⟩
          have HB8 := K0 (below_step HB1.out hb8)
          clear x0 x1 x2 x3 xN hb8
          have x0 : w8.cell? ⟨g, 0, none⟩ = some (.int .i64 N) := (blk_cell (blk_below HN.out HB8.out) 0).trans rfl
          have x1 : w8.cell? ⟨g, 1, none⟩ = some (.slice AL L.length cL) := (blk_cell (blk_below HN.out HB8.out) 1).trans rfl
          have x2 : w8.cell? ⟨g, 2, none⟩ = some (.slice ALs Ls.length cLs) := (blk_cell (blk_below HN.out HB8.out) 2).trans rfl
          have x3 : w8.cell? ⟨g, 3, none⟩ = some (.bool Br) := (blk_cell (blk_below HN.out HB8.out) 3).trans rfl
          go_wp2_with fail
          refine (HBR.out _ HB8.out).mono ?_
          rintro e' w9 ⟨rfl, hb9⟩
          have HB9 := K0 (below_step HB8.out hb9)
          clear x0 x1 x2 x3 hb9
          go_wp2
          go_ret
          exact ⟨rfl, below_step HB.out HB9.out⟩
        have dN : decide (v ≤ N + 1) = true := decide_eq_true hvle
        obtain ⟨a, b, h1, h2, h3, h4⟩ := HP.out.vars v HV.out hvle
        rw [HTR.out] at h1 h2
        have H1 := K0 (ask_has HR5.out hc5 h1)
        have H2 := K0 (ask_has HR5.out hc5 h2)
        have HF1 := K0 h3; have HF2 := K0 h4
        have hwv : (Lit.int .i64 v).wf = true := wf_small HV.out (by omega)
        have DW := K0 (show wrap64 (v + 1) = v + 1 by have := HV.out; unfold wrap64; omega)
        have HVL := K0 hvle; clear h1 h2 h3 h4 hvle
        cases a with
        | true =>
          go_wp2_with fail
          refine (H1.out.go _ HB1.out).mono ?_
          rintro e' wz6 ⟨rfl, hz6⟩
          have HZ6 := K0 hz6; clear hz6 HB1 xN
          by_cases hv0 : v ≤ 0
          case neg =>
            have dv : decide (v ≤ 0) = false := decide_eq_false hv0
            clear hwv
            go_wp2
            go_roundg (N + 2 - (v + 1)).toNat
            case measure => have := hg.out; have := HVL.out; omega
            case rel => exact ⟨v + 1, by rw [DW.out], ⟨by have := hg.out; have := HVL.out; omega⟩, ⟨by have := HV.out; omega⟩, HZ6⟩
          have dv : decide (v ≤ 0) = true := decide_eq_true hv0
          obtain ⟨l1, l2⟩ := HF1.out (.inl hv0)
          have B1 := K0 (ask_level HE.out hwv)
          have B2 := K0 (ask_why HE.out hwv)
          have B3 := K0 (ask_value HE.out hwv)
          rw [l1] at B1
          rw [l2] at B2
          clear l1 l2 hwv
          go_wp2_with fail
          refine (B1.out.go _ HZ6.out).mono ?_
          rintro e' wz7 ⟨rfl, hz7⟩
          have HZ7 := K0 hz7; clear hz7 HZ6
          go_wp2_with fail
          refine (B2.out.go _ HZ7.out).mono ?_
          rintro e' wz8 ⟨rfl, hz8⟩
          have HZ8 := K0 hz8; clear hz8 HZ7
          go_wp2
          go_roundg (N + 2 - (v + 1)).toNat
          case measure => have := hg.out; have := HVL.out; omega
          case rel => exact ⟨v + 1, by rw [DW.out], ⟨by have := hg.out; have := HVL.out; omega⟩, ⟨by have := HV.out; omega⟩, HZ8⟩
        | false =>
          go_wp2_with fail
          refine (H1.out.go _ HB1.out).mono ?_
          rintro e' wz9 ⟨rfl, hz9⟩
          have HZ9 := K0 hz9; clear hz9 HB1 xN
          cases b with
          | true =>
            go_wp2_with fail
            refine (H2.out.go _ HZ9.out).mono ?_
            rintro e' wz10 ⟨rfl, hz10⟩
            have HZ10 := K0 hz10; clear hz10 HZ9
            by_cases hv0 : v ≤ 0
            case neg =>
              have dv : decide (v ≤ 0) = false := decide_eq_false hv0
              clear hwv
              go_wp2
              go_roundg (N + 2 - (v + 1)).toNat
              case measure => have := hg.out; have := HVL.out; omega
              case rel => exact ⟨v + 1, by rw [DW.out], ⟨by have := hg.out; have := HVL.out; omega⟩, ⟨by have := HV.out; omega⟩, HZ10⟩
            have dv : decide (v ≤ 0) = true := decide_eq_true hv0
            obtain ⟨l1, l2⟩ := HF1.out (.inl hv0)
            have B1 := K0 (ask_level HE.out hwv)
            have B2 := K0 (ask_why HE.out hwv)
            have B3 := K0 (ask_value HE.out hwv)
            rw [l1] at B1
            rw [l2] at B2
            clear l1 l2 hwv
            go_wp2_with fail
            refine (B1.out.go _ HZ10.out).mono ?_
            rintro e' wz11 ⟨rfl, hz11⟩
            have HZ11 := K0 hz11; clear hz11 HZ10
            go_wp2_with fail
            refine (B2.out.go _ HZ11.out).mono ?_
            rintro e' wz12 ⟨rfl, hz12⟩
            have HZ12 := K0 hz12; clear hz12 HZ11
            go_wp2
            go_roundg (N + 2 - (v + 1)).toNat
            case measure => have := hg.out; have := HVL.out; omega
            case rel => exact ⟨v + 1, by rw [DW.out], ⟨by have := hg.out; have := HVL.out; omega⟩, ⟨by have := HV.out; omega⟩, HZ12⟩
          | false =>
            go_wp2_with fail
            refine (H2.out.go _ HZ9.out).mono ?_
            rintro e' wz13 ⟨rfl, hz13⟩
            have HZ13 := K0 hz13; clear hz13 HZ9
            by_cases hv0 : v ≤ 0
            case pos =>
              have dv : decide (v ≤ 0) = true := decide_eq_true hv0
              obtain ⟨l1, l2⟩ := HF1.out (.inl hv0)
              have B1 := K0 (ask_level HE.out hwv)
              have B2 := K0 (ask_why HE.out hwv)
              have B3 := K0 (ask_value HE.out hwv)
              rw [l1] at B1
              rw [l2] at B2
              rw [HF2.out rfl] at B3
              clear l1 l2 hwv
              go_wp2_with fail
              refine (B1.out.go _ HZ13.out).mono ?_
              rintro e' wz14 ⟨rfl, hz14⟩
              have HZ14 := K0 hz14; clear hz14 HZ13
              go_wp2_with fail
              refine (B2.out.go _ HZ14.out).mono ?_
              rintro e' wz15 ⟨rfl, hz15⟩
              have HZ15 := K0 hz15; clear hz15 HZ14
              go_wp2_with fail
              refine (B3.out.go _ HZ15.out).mono ?_
              rintro e' wz16 ⟨rfl, hz16⟩
              have HZ16 := K0 hz16; clear hz16 HZ15
              go_wp2
              go_roundg (N + 2 - (v + 1)).toNat
              case measure => have := hg.out; have := HVL.out; omega
              case rel => exact ⟨v + 1, by rw [DW.out], ⟨by have := hg.out; have := HVL.out; omega⟩, ⟨by have := HV.out; omega⟩, HZ16⟩
            have dv : decide (v ≤ 0) = false := decide_eq_false hv0
            obtain ⟨l1, l2⟩ := HF1.out (.inr rfl)
            have B1 := K0 (ask_level HE.out hwv)
            have B2 := K0 (ask_why HE.out hwv)
            have B3 := K0 (ask_value HE.out hwv)
            rw [l1] at B1
            rw [l2] at B2
            rw [HF2.out rfl] at B3
            clear l1 l2 hwv
            go_wp2_with fail
            refine (B1.out.go _ HZ13.out).mono ?_
            rintro e' wz17 ⟨rfl, hz17⟩
            have HZ17 := K0 hz17; clear hz17 HZ13
            go_wp2_with fail
            refine (B2.out.go _ HZ17.out).mono ?_
            rintro e' wz18 ⟨rfl, hz18⟩
            have HZ18 := K0 hz18; clear hz18 HZ17
            go_wp2_with fail
            refine (B3.out.go _ HZ18.out).mono ?_
            rintro e' wz19 ⟨rfl, hz19⟩
            have HZ19 := K0 hz19; clear hz19 HZ18
            go_wp2
            go_roundg (N + 2 - (v + 1)).toNat
            case measure => have := hg.out; have := HVL.out; omega
            case rel => exact ⟨v + 1, by rw [DW.out], ⟨by have := hg.out; have := HVL.out; omega⟩, ⟨by have := HV.out; omega⟩, HZ19⟩
    rw [hBr] at xB
    have hut : u = tr.length := by rw [hu, HP.out.all hBr, HTR.out]
    clear hu HU; subst hut
    go_wp2
    clear xB xN
    go_loopg [11, 12] (N + 3).toNat (fun gg v11 v12 wi => ∃ (v : Int), v11 = .int .i64 v ∧ Aside0 (v + (gg : Int) = N + 2) ∧ Aside0 (-1 ≤ v) ∧ Aside0 (Below wb.heap.size wb wi))
    case atStart => exact ⟨-1, rfl, ⟨by omega⟩, ⟨by omega⟩, HB1⟩
    case round =>
      clear HB1 hBr
      obtain ⟨v, rfl, hg, HV, HB1⟩ := hrel
      have xN : wr.cell? ⟨g, 0, none⟩ = some (.int .i64 N) := (blk_cell (blk_below HN.out HB1.out) 0).trans rfl
      by_cases hvle : v ≤ N + 1
      case neg =>
        have dN : decide (v ≤ N + 1) = false := decide_eq_false hvle
        have x0 : wr.cell? ⟨g, 0, none⟩ = some (.int .i64 N) := xN
        have x1 : wr.cell? ⟨g, 1, none⟩ = some (.slice AL L.length cL) := (blk_cell (blk_below HN.out HB1.out) 1).trans rfl
        have x2 : wr.cell? ⟨g, 2, none⟩ = some (.slice ALs Ls.length cLs) := (blk_cell (blk_below HN.out HB1.out) 2).trans rfl
        have x3 : wr.cell? ⟨g, 3, none⟩ = some (.bool Br) := (blk_cell (blk_below HN.out HB1.out) 3).trans rfl
        have hwhy := HP.out.why
        have hbad := HP.out.bad
        have hlv1 := HP.out.lv1
        rw [HTR.out] at hwhy hbad hlv1
        have HRS := K0 (fun (W : World) (hb : Below wb.heap.size wb W) => sequiturlaw20_reasons.calls k E B T p N AL cL L ALs Ls.length cLs Br A5 c5 tr lv W (HE.out.below hb) (Kd.C_below HR1.out hb) (Kd.C_below HR5.out hb) hc5 (by have h1 := HP.out.lvs E.tr.length; have h2 := HP.out.lv1; omega) HP.out.lvs HP.out.lv0 hlv1 hwhy)
        have HBR := K0 (fun (W : World) (hb : Below wb.heap.size wb W) => sequiturlaw20_broken.calls k E B T p N AL cL L ALs Ls.length cLs Br A5 c5 tr W (HE.out.below hb) (Kd.C_below HR1.out hb) (Kd.C_below HR5.out hb) hc5 hbad)
        clear hwhy hbad hlv1 hvle
        go_wp2_with fail
        refine (HRS.out _ HB1.out).mono ?_
        rintro e' w8 ⟨rfl, hb8⟩
        have HB8 := K0 (below_step HB1.out hb8)
        clear x0 x1 x2 x3 xN hb8
        have x0 : w8.cell? ⟨g, 0, none⟩ = some (.int .i64 N) := (blk_cell (blk_below HN.out HB8.out) 0).trans rfl
        have x1 : w8.cell? ⟨g, 1, none⟩ = some (.slice AL L.length cL) := (blk_cell (blk_below HN.out HB8.out) 1).trans rfl
        have x2 : w8.cell? ⟨g, 2, none⟩ = some (.slice ALs Ls.length cLs) := (blk_cell (blk_below HN.out HB8.out) 2).trans rfl
        have x3 : w8.cell? ⟨g, 3, none⟩ = some (.bool Br) := (blk_cell (blk_below HN.out HB8.out) 3).trans rfl
        go_wp2_with fail
        refine (HBR.out _ HB8.out).mono ?_
        rintro e' w9 ⟨rfl, hb9⟩
        have HB9 := K0 (below_step HB8.out hb9)
        clear x0 x1 x2 x3 hb9
        go_wp2
        go_ret
        exact ⟨rfl, below_step HB.out HB9.out⟩
      have dN : decide (v ≤ N + 1) = true := decide_eq_true hvle
      obtain ⟨a, b, h1, h2, h3, h4⟩ := HP.out.vars v HV.out hvle
      rw [HTR.out] at h1 h2
      have H1 := K0 (ask_has HR5.out hc5 h1)
      have H2 := K0 (ask_has HR5.out hc5 h2)
      have HF1 := K0 h3; have HF2 := K0 h4
      have hwv : (Lit.int .i64 v).wf = true := wf_small HV.out (by omega)
      have DW := K0 (show wrap64 (v + 1) = v + 1 by have := HV.out; unfold wrap64; omega)
      have HVL := K0 hvle; clear h1 h2 h3 h4 hvle
      cases a with
      | true =>
        go_wp2_with fail
        refine (H1.out.go _ HB1.out).mono ?_
        rintro e' wz6 ⟨rfl, hz6⟩
        have HZ6 := K0 hz6; clear hz6 HB1 xN
        by_cases hv0 : v ≤ 0
        case neg =>
          have dv : decide (v ≤ 0) = false := decide_eq_false hv0
          clear hwv
          go_wp2
          go_roundg (N + 2 - (v + 1)).toNat
          case measure => have := hg.out; have := HVL.out; omega
          case rel => exact ⟨v + 1, by rw [DW.out], ⟨by have := hg.out; have := HVL.out; omega⟩, ⟨by have := HV.out; omega⟩, HZ6⟩
        have dv : decide (v ≤ 0) = true := decide_eq_true hv0
        obtain ⟨l1, l2⟩ := HF1.out (.inl hv0)
        have B1 := K0 (ask_level HE.out hwv)
        have B2 := K0 (ask_why HE.out hwv)
        have B3 := K0 (ask_value HE.out hwv)
        rw [l1] at B1
        rw [l2] at B2
        clear l1 l2 hwv
        go_wp2_with fail
        refine (B1.out.go _ HZ6.out).mono ?_
        rintro e' wz7 ⟨rfl, hz7⟩
        have HZ7 := K0 hz7; clear hz7 HZ6
        go_wp2_with fail
        refine (B2.out.go _ HZ7.out).mono ?_
        rintro e' wz8 ⟨rfl, hz8⟩
        have HZ8 := K0 hz8; clear hz8 HZ7
        go_wp2
        go_roundg (N + 2 - (v + 1)).toNat
        case measure => have := hg.out; have := HVL.out; omega
        case rel => exact ⟨v + 1, by rw [DW.out], ⟨by have := hg.out; have := HVL.out; omega⟩, ⟨by have := HV.out; omega⟩, HZ8⟩
      | false =>
        go_wp2_with fail
        refine (H1.out.go _ HB1.out).mono ?_
        rintro e' wz9 ⟨rfl, hz9⟩
        have HZ9 := K0 hz9; clear hz9 HB1 xN
        cases b with
        | true =>
          go_wp2_with fail
          refine (H2.out.go _ HZ9.out).mono ?_
          rintro e' wz10 ⟨rfl, hz10⟩
          have HZ10 := K0 hz10; clear hz10 HZ9
          by_cases hv0 : v ≤ 0
          case neg =>
            have dv : decide (v ≤ 0) = false := decide_eq_false hv0
            clear hwv
            go_wp2
            go_roundg (N + 2 - (v + 1)).toNat
            case measure => have := hg.out; have := HVL.out; omega
            case rel => exact ⟨v + 1, by rw [DW.out], ⟨by have := hg.out; have := HVL.out; omega⟩, ⟨by have := HV.out; omega⟩, HZ10⟩
          have dv : decide (v ≤ 0) = true := decide_eq_true hv0
          obtain ⟨l1, l2⟩ := HF1.out (.inl hv0)
          have B1 := K0 (ask_level HE.out hwv)
          have B2 := K0 (ask_why HE.out hwv)
          have B3 := K0 (ask_value HE.out hwv)
          rw [l1] at B1
          rw [l2] at B2
          clear l1 l2 hwv
          go_wp2_with fail
          refine (B1.out.go _ HZ10.out).mono ?_
          rintro e' wz11 ⟨rfl, hz11⟩
          have HZ11 := K0 hz11; clear hz11 HZ10
          go_wp2_with fail
          refine (B2.out.go _ HZ11.out).mono ?_
          rintro e' wz12 ⟨rfl, hz12⟩
          have HZ12 := K0 hz12; clear hz12 HZ11
          go_wp2
          go_roundg (N + 2 - (v + 1)).toNat
          case measure => have := hg.out; have := HVL.out; omega
          case rel => exact ⟨v + 1, by rw [DW.out], ⟨by have := hg.out; have := HVL.out; omega⟩, ⟨by have := HV.out; omega⟩, HZ12⟩
        | false =>
          go_wp2_with fail
          refine (H2.out.go _ HZ9.out).mono ?_
          rintro e' wz13 ⟨rfl, hz13⟩
          have HZ13 := K0 hz13; clear hz13 HZ9
          by_cases hv0 : v ≤ 0
          case pos =>
            have dv : decide (v ≤ 0) = true := decide_eq_true hv0
            obtain ⟨l1, l2⟩ := HF1.out (.inl hv0)
            have B1 := K0 (ask_level HE.out hwv)
            have B2 := K0 (ask_why HE.out hwv)
            have B3 := K0 (ask_value HE.out hwv)
            rw [l1] at B1
            rw [l2] at B2
            rw [HF2.out rfl] at B3
            clear l1 l2 hwv
            go_wp2_with fail
            refine (B1.out.go _ HZ13.out).mono ?_
            rintro e' wz14 ⟨rfl, hz14⟩
            have HZ14 := K0 hz14; clear hz14 HZ13
            go_wp2_with fail
            refine (B2.out.go _ HZ14.out).mono ?_
            rintro e' wz15 ⟨rfl, hz15⟩
            have HZ15 := K0 hz15; clear hz15 HZ14
            go_wp2_with fail
            refine (B3.out.go _ HZ15.out).mono ?_
            rintro e' wz16 ⟨rfl, hz16⟩
            have HZ16 := K0 hz16; clear hz16 HZ15
            go_wp2
            go_roundg (N + 2 - (v + 1)).toNat
            case measure => have := hg.out; have := HVL.out; omega
            case rel => exact ⟨v + 1, by rw [DW.out], ⟨by have := hg.out; have := HVL.out; omega⟩, ⟨by have := HV.out; omega⟩, HZ16⟩
          have dv : decide (v ≤ 0) = false := decide_eq_false hv0
          obtain ⟨l1, l2⟩ := HF1.out (.inr rfl)
          have B1 := K0 (ask_level HE.out hwv)
          have B2 := K0 (ask_why HE.out hwv)
          have B3 := K0 (ask_value HE.out hwv)
          rw [l1] at B1
          rw [l2] at B2
          rw [HF2.out rfl] at B3
          clear l1 l2 hwv
          go_wp2_with fail
          refine (B1.out.go _ HZ13.out).mono ?_
          rintro e' wz17 ⟨rfl, hz17⟩
          have HZ17 := K0 hz17; clear hz17 HZ13
          go_wp2_with fail
          refine (B2.out.go _ HZ17.out).mono ?_
          rintro e' wz18 ⟨rfl, hz18⟩
          have HZ18 := K0 hz18; clear hz18 HZ17
          go_wp2_with fail
          refine (B3.out.go _ HZ18.out).mono ?_
          rintro e' wz19 ⟨rfl, hz19⟩
          have HZ19 := K0 hz19; clear hz19 HZ18
          go_wp2
          go_roundg (N + 2 - (v + 1)).toNat
          case measure => have := hg.out; have := HVL.out; omega
          case rel => exact ⟨v + 1, by rw [DW.out], ⟨by have := hg.out; have := HVL.out; omega⟩, ⟨by have := HV.out; omega⟩, HZ19⟩
def sequiturref20_Pop.f (k : Nat) (a0_0 : Int) (l0_1 : List (List Int)) (l0_2 : List (List Int)) (a0_3 : Bool) : Option (Int × (List (List Int)) × (List (List Int)) × Bool × Bool) := if (l0_2.length : Int) < 2 then (some (a0_0, l0_1, l0_2, a0_3, false)) else (if 0 ≤ (wrap64 ((l0_2.length : Int) - 1)) then (if (wrap64 ((l0_2.length : Int) - 1)) ≤ (l0_2.length : Int) then ((sequiturref20_On.f k a0_0 l0_1 (l0_2.take ((wrap64 ((l0_2.length : Int) - 1)) : Int).toNat) false).bind fun bt251 => (some (bt251.1, bt251.2.1, bt251.2.2.1, bt251.2.2.2, true))) else (none)) else (none))
set_option maxHeartbeats 8000000 in
set_option maxRecDepth 100000 in
theorem sequiturref20_Pop.calls (k : Nat) (a0_0 : Int) (P0_1_ : Nat → Prop) (A0_1 : Option Addr) (c0_1 : Nat) (l0_1 : List (List Int)) (P0_2_ : Nat → Prop) (A0_2 : Option Addr) (c0_2 : Nat) (l0_2 : List (List Int)) (a0_3 : Bool) (r1 : Int) (r2 : List (List Int)) (r3 : List (List Int)) (r4 : Bool) (r5 : Bool) (w : World) (hs0_1 : Kd.V (Kd.slice 3 (Kd.int .i64)) 37 w w.heap.size (fun k_ => P0_1_ k_) (.slice A0_1 l0_1.length c0_1) l0_1) (hs0_2 : Kd.V (Kd.slice 3 (Kd.int .i64)) 37 w w.heap.size (fun k_ => P0_2_ k_) (.slice A0_2 l0_2.length c0_2) l0_2) (h : sequiturref20_Pop.f k a0_0 l0_1 l0_2 a0_3 = some (r1, r2, r3, r4, r5)) :
    Calls Try.prog 46 #[.agg #[.int .i64 a0_0, .slice A0_1 l0_1.length c0_1, .slice A0_2 l0_2.length c0_2, .bool a0_3]] w fun e w' => ∃ v1_ v2_ : Value, e = .returned (.tuple #[.agg #[.int .i64 r1, v1_, v2_, .bool r4], .bool r5]) ∧ Kd.V (Kd.slice 3 (Kd.int .i64)) 37 w' w.heap.size (fun k_ => ((P0_1_ k_ ∨ P0_2_ k_) ∨ w.heap.size ≤ k_)) v1_ r2 ∧ Kd.V (Kd.slice 3 (Kd.int .i64)) 37 w' w.heap.size (fun k_ => ((P0_1_ k_ ∨ P0_2_ k_) ∨ w.heap.size ≤ k_)) v2_ r3 ∧ Below w.heap.size w w' := by
  have hu34 := Try.underlying34
  have HO0_1 := K0 (show Kd.V (Kd.slice 3 (Kd.int .i64)) 37 w w.heap.size (fun k_ => ((P0_1_ k_ ∨ P0_2_ k_) ∨ w.heap.size ≤ k_)) (.slice A0_1 l0_1.length c0_1) l0_1 from Kd.V_mono hs0_1 (fun k_ hk => .inl (.inl hk)))
  have HO0_2 := K0 (show Kd.V (Kd.slice 3 (Kd.int .i64)) 37 w w.heap.size (fun k_ => ((P0_1_ k_ ∨ P0_2_ k_) ∨ w.heap.size ≤ k_)) (.slice A0_2 l0_2.length c0_2) l0_2 from Kd.V_mono hs0_2 (fun k_ hk => .inl (.inr hk)))
  have HB := K0 (Below.refl w.heap.size w)
  have H : (if (l0_2.length : Int) < 2 then (some (a0_0, l0_1, l0_2, a0_3, false)) else (if 0 ≤ (wrap64 ((l0_2.length : Int) - 1)) then (if (wrap64 ((l0_2.length : Int) - 1)) ≤ (l0_2.length : Int) then ((sequiturref20_On.f k a0_0 l0_1 (l0_2.take ((wrap64 ((l0_2.length : Int) - 1)) : Int).toNat) false).bind fun bt251 => (some (bt251.1, bt251.2.1, bt251.2.2.1, bt251.2.2.2, true))) else (none)) else (none))) = some (r1, r2, r3, r4, r5) := h
  clear h
  by_cases c2 : (l0_2.length : Int) < 2
  case pos =>
    rw [if_pos c2] at H
    have c2b0 : decide ((l0_2.length : Int) < 2) = true := decide_eq_true c2
    have c2b1 : decide (l0_2.length < 2) = true := decide_eq_true (by omega)
    clear c2
    as_aux_lemma =>
      simp only [Option.some.injEq, Prod.mk.injEq] at H
      obtain ⟨rfl, rfl, rfl, rfl, rfl⟩ := H
      go_enter Try.func46, Try.ntmps46
      go_wp2_with (first | ((with_reducible refine gate_dst (N := 1) rfl ?_); refine box_event ?hg (N := 1) ?hd (cs := #[.int .i64 a0_0, .slice A0_1 l0_1.length c0_1, .slice A0_2 l0_2.length c0_2, .bool a0_3]) (t := 34) ?hr ?_; (case hd => rfl); (case hg => rfl); (case hr => first | (go_simp; done) | (go_simp; rfl)); intro gb244 hg w3 hbox hb; have n0_ := K0 (Kd.V_below (Kd.V_elderB (by (with_reducible repeat (first | apply Kd.V_alloc | apply Kd.V_drewN | apply Kd.V_drew)); exact HO0_1.out) gb244 (Nat.le_of_eq hg.symm)) hb); have n1_ := K0 (Kd.V_below (Kd.V_elderB (by (with_reducible repeat (first | apply Kd.V_alloc | apply Kd.V_drewN | apply Kd.V_drew)); exact HO0_2.out) gb244 (Nat.le_of_eq hg.symm)) hb); have n2_ := K0 (below_step (by repeat (first | (with_reducible first | exact HB.out | apply below_alloc | apply pw_below_drewN | apply below_drew1) | exact HB.out)) hb); have n3_ := K0 (hbox); have n4_ := K0 ((by rw [hg]; exact (below_size (by repeat (first | (with_reducible first | exact HB.out | apply below_alloc | apply pw_below_drewN | apply below_drew1) | exact HB.out))) : w.heap.size ≤ gb244)); have n5_ := K0 ((by rw [hg]; exact (below_size (by repeat (first | (with_reducible first | exact HB.out | apply below_alloc | apply pw_below_drewN | apply below_drew1) | exact HB.out))) : w.heap.size ≤ gb244)); clear HO0_1; clear HO0_2; clear HB; have HO0_1 := n0_; have HO0_2 := n1_; have HB := n2_; have BK244 := n3_; have GW244 := n4_; have GE244 := n5_; clear n0_ n1_ n2_ n3_ n4_ n5_; clear hb hbox hg) | ((with_reducible refine gate_dst (N := 2) rfl ?_); refine box_event ?hg (N := 2) ?hd (cs := #[.int .i64 0, .slice none 0 0, .slice none 0 0, .bool false]) (t := 34) ?hr ?_; (case hd => rfl); (case hg => rfl); (case hr => first | (go_simp; done) | (go_simp; rfl)); intro gb245 hg w4 hbox hb; have n0_ := K0 (Kd.V_below (Kd.V_elderB (by (with_reducible repeat (first | apply Kd.V_alloc | apply Kd.V_drewN | apply Kd.V_drew)); exact HO0_1.out) gb245 (Nat.le_of_eq hg.symm)) hb); have n1_ := K0 (Kd.V_below (Kd.V_elderB (by (with_reducible repeat (first | apply Kd.V_alloc | apply Kd.V_drewN | apply Kd.V_drew)); exact HO0_2.out) gb245 (Nat.le_of_eq hg.symm)) hb); have n2_ := K0 (blk_below (g := gb244) (o := .cells #[.int .i64 a0_0, .slice A0_1 l0_1.length c0_1, .slice A0_2 l0_2.length c0_2, .bool a0_3] 34 (0, 0)) (by (with_reducible repeat (first | refine blk_drewN ?_ _ | refine blk_drew ?_ | refine blk_alloc ?_ _)); exact BK244.out) hb); have n3_ := K0 (below_step (by repeat (first | (with_reducible first | exact HB.out | apply below_alloc | apply pw_below_drewN | apply below_drew1 | refine below_set ?_ GE244.out) | exact HB.out)) hb); have n4_ := K0 (hbox); have n5_ := K0 ((by rw [hg]; exact (below_size (by repeat (first | (with_reducible first | exact HB.out | apply below_alloc | apply pw_below_drewN | apply below_drew1 | refine below_set ?_ GE244.out) | exact HB.out))) : w.heap.size ≤ gb245)); have n6_ := K0 ((by rw [hg]; exact (below_size (by repeat (first | (with_reducible first | exact HB.out | apply below_alloc | apply pw_below_drewN | apply below_drew1 | refine below_set ?_ GE244.out) | exact HB.out))) : w.heap.size ≤ gb245)); have n7_ := K0 ((by rw [hg]; exact Nat.ne_of_lt (blk_lt (g := gb244) (o := .cells #[.int .i64 a0_0, .slice A0_1 l0_1.length c0_1, .slice A0_2 l0_2.length c0_2, .bool a0_3] 34 (0, 0)) (by (with_reducible repeat (first | refine blk_drewN ?_ _ | refine blk_drew ?_ | refine blk_alloc ?_ _)); exact BK244.out)) : gb244 ≠ gb245)); have n8_ := K0 ((by rw [hg]; exact Nat.ne_of_gt (blk_lt (g := gb244) (o := .cells #[.int .i64 a0_0, .slice A0_1 l0_1.length c0_1, .slice A0_2 l0_2.length c0_2, .bool a0_3] 34 (0, 0)) (by (with_reducible repeat (first | refine blk_drewN ?_ _ | refine blk_drew ?_ | refine blk_alloc ?_ _)); exact BK244.out)) : gb245 ≠ gb244)); clear HO0_1; clear HO0_2; clear BK244; clear HB; have HO0_1 := n0_; have HO0_2 := n1_; have BK244 := n2_; have HB := n3_; have BK245 := n4_; have GW245 := n5_; have GE245 := n6_; have NB244_245 := n7_; have NB245_244 := n8_; clear n0_ n1_ n2_ n3_ n4_ n5_ n6_ n7_ n8_; clear hb hbox hg; have hnb5 := NB244_245.out; have hnc5 := NB245_244.out; have hcz6_0 : w4.cell? ⟨gb244, 0, none⟩ = some (.int .i64 a0_0) := (blk_cell BK244.out 0).trans rfl; have hcz6_1 : w4.cell? ⟨gb244, 1, none⟩ = some (.slice A0_1 l0_1.length c0_1) := (blk_cell BK244.out 1).trans rfl; have hcz6_2 : w4.cell? ⟨gb244, 2, none⟩ = some (.slice A0_2 l0_2.length c0_2) := (blk_cell BK244.out 2).trans rfl; have hcz6_3 : w4.cell? ⟨gb244, 3, none⟩ = some (.bool a0_3) := (blk_cell BK244.out 3).trans rfl; have hfz6_0 := blk_frozen BK244.out 0; have hfz6_1 := blk_frozen BK244.out 1; have hfz6_2 := blk_frozen BK244.out 2; have hfz6_3 := blk_frozen BK244.out 3; have hcz7_0 : w4.cell? ⟨gb245, 0, none⟩ = some (.int .i64 0) := (blk_cell BK245.out 0).trans rfl; have hcz7_1 : w4.cell? ⟨gb245, 1, none⟩ = some (.slice none 0 0) := (blk_cell BK245.out 1).trans rfl; have hcz7_2 : w4.cell? ⟨gb245, 2, none⟩ = some (.slice none 0 0) := (blk_cell BK245.out 2).trans rfl; have hcz7_3 : w4.cell? ⟨gb245, 3, none⟩ = some (.bool false) := (blk_cell BK245.out 3).trans rfl; have hfz7_0 := blk_frozen BK245.out 0; have hfz7_1 := blk_frozen BK245.out 1; have hfz7_2 := blk_frozen BK245.out 2; have hfz7_3 := blk_frozen BK245.out 3))
      refine bodyPost_ret (results_ct rfl _ _ gb245 34 #[.int .i64 a0_0, .slice A0_1 l0_1.length c0_1, .slice A0_2 l0_2.length c0_2, .bool a0_3] (0, 0) _ rfl (by (with_reducible repeat (first | refine blk_drewN ?_ _ | refine blk_drew ?_ | refine blk_alloc ?_ _)); refine blk_put (cs := #[.int .i64 a0_0, .slice A0_1 l0_1.length c0_1, .slice A0_2 l0_2.length c0_2, .bool false]) ?_ 3 _ rfl; (with_reducible repeat (first | refine blk_drewN ?_ _ | refine blk_drew ?_ | refine blk_alloc ?_ _)); refine blk_put (cs := #[.int .i64 a0_0, .slice A0_1 l0_1.length c0_1, .slice none 0 0, .bool false]) ?_ 2 _ rfl; (with_reducible repeat (first | refine blk_drewN ?_ _ | refine blk_drew ?_ | refine blk_alloc ?_ _)); refine blk_put (cs := #[.int .i64 a0_0, .slice none 0 0, .slice none 0 0, .bool false]) ?_ 1 _ rfl; (with_reducible repeat (first | refine blk_drewN ?_ _ | refine blk_drew ?_ | refine blk_alloc ?_ _)); refine blk_put (cs := #[.int .i64 0, .slice none 0 0, .slice none 0 0, .bool false]) ?_ 0 _ rfl; (with_reducible repeat (first | refine blk_drewN ?_ _ | refine blk_drew ?_ | refine blk_alloc ?_ _)); exact BK245.out) Try.underlying34 rfl (by kernel_rfl)) rfl ?_
      exact ⟨_, _, by first | rfl | (simp [errW_none, errW_some] <;> rfl) | (simp [*, errW_none, errW_some] <;> rfl), by (with_reducible repeat (first | apply Kd.V_alloc | apply Kd.V_drewN | apply Kd.V_drew)); exact Kd.V_mono (Kd.V_far (p := ⟨gb245, 3, none⟩) (Kd.V_far (p := ⟨gb245, 2, none⟩) (Kd.V_far (p := ⟨gb245, 1, none⟩) (Kd.V_far (p := ⟨gb245, 0, none⟩) (Kd.V_mono HO0_1.out (fun k_ hk => (⟨hk, hk.2⟩ : _ ∧ k_ ≠ gb245))) (fun _ hk => hk.2) (.int .i64 a0_0)) (fun _ hk => hk.2) (.slice A0_1 l0_1.length c0_1)) (fun _ hk => hk.2) (.slice A0_2 l0_2.length c0_2)) (fun _ hk => hk.2) (.bool a0_3)) (fun _ hk => hk.1.1.1), by (with_reducible repeat (first | apply Kd.V_alloc | apply Kd.V_drewN | apply Kd.V_drew)); exact Kd.V_mono (Kd.V_far (p := ⟨gb245, 3, none⟩) (Kd.V_far (p := ⟨gb245, 2, none⟩) (Kd.V_far (p := ⟨gb245, 1, none⟩) (Kd.V_far (p := ⟨gb245, 0, none⟩) (Kd.V_mono HO0_2.out (fun k_ hk => (⟨hk, hk.2⟩ : _ ∧ k_ ≠ gb245))) (fun _ hk => hk.2) (.int .i64 a0_0)) (fun _ hk => hk.2) (.slice A0_1 l0_1.length c0_1)) (fun _ hk => hk.2) (.slice A0_2 l0_2.length c0_2)) (fun _ hk => hk.2) (.bool a0_3)) (fun _ hk => hk.1.1.1), by repeat (first | (with_reducible first | exact HB.out | apply below_alloc | apply pw_below_drewN | apply below_drew1 | refine below_set ?_ GE244.out | refine below_set ?_ GE245.out) | exact HB.out)⟩
  rw [if_neg c2] at H
  have c2b0 : decide ((l0_2.length : Int) < 2) = false := decide_eq_false c2
  have c2b1 : decide (l0_2.length < 2) = false := decide_eq_false (by omega)
  clear c2
  obtain ⟨ji8, hji8⟩ : ∃ j_ : Int, (wrap64 ((l0_2.length : Int) - 1)) = j_ := ⟨_, rfl⟩
  replace H : (if 0 ≤ (ji8) then (if (ji8) ≤ (l0_2.length : Int) then ((sequiturref20_On.f k a0_0 l0_1 (l0_2.take ((ji8) : Int).toNat) false).bind fun bt251 => (some (bt251.1, bt251.2.1, bt251.2.2.1, bt251.2.2.2, true))) else (none)) else (none)) = some (r1, r2, r3, r4, r5) := by first | (rw [hji8] at H; exact H) | (simp only [hji8] at H ⊢; exact H)
  have hji8w : (IntKind.i64.wrap ((l0_2.length : Int) - 1)) = ji8 := (i64_w _).trans hji8
  by_cases c9 : 0 ≤ (ji8)
  case neg =>
    rw [if_neg c9] at H
    exact absurd H (by simp)
  rw [if_pos c9] at H
  have c9b0 := eq_true c9
  have c9b1 : decide (0 ≤ (ji8)) = true := decide_eq_true c9
  clear c9
  by_cases c10 : (ji8) ≤ (l0_2.length : Int)
  case neg =>
    rw [if_neg c10] at H
    exact absurd H (by simp)
  rw [if_pos c10] at H
  have c10b0 := eq_true c10
  have c10b1 : decide ((ji8) ≤ (l0_2.length : Int)) = true := decide_eq_true c10
  clear c10
  obtain ⟨y246, hy246⟩ : ∃ y_ : List (List Int), y_ = (l0_2.take ((ji8) : Int).toNat) := ⟨_, rfl⟩
  replace H : ((sequiturref20_On.f k a0_0 l0_1 y246 false).bind fun bt251 => (some (bt251.1, bt251.2.1, bt251.2.2.1, bt251.2.2.2, true))) = some (r1, r2, r3, r4, r5) := by first | (rw [hy246]; with_reducible exact H) | (have H2_ := (Option.bind_some _ _).symm.trans H; rw [hy246]; with_reducible exact H2_) | (have H2_ := (Option.bind_some _ _).symm.trans H; with_reducible exact H2_) | with_reducible exact H | (rw [hy246]; exact H) | exact H
  have Ny246 := K0 hy246; clear hy246
  replace H := Option.bind_eq_some_iff.mp H
  obtain ⟨⟨t251, t252, t255, t258⟩, A110, H⟩ := H
  replace H : (some (t251, t252, t255, t258, true)) = some (r1, r2, r3, r4, r5) := H
  have A11 := K0 A110; clear A110
  as_aux_lemma =>
    simp only [Option.some.injEq, Prod.mk.injEq] at H
    obtain ⟨rfl, rfl, rfl, rfl, rfl⟩ := H
    go_enter Try.func46, Try.ntmps46
    go_wp2_with (first | ((with_reducible refine gate_dst (N := 1) rfl ?_); refine box_event ?hg (N := 1) ?hd (cs := #[.int .i64 a0_0, .slice A0_1 l0_1.length c0_1, .slice A0_2 l0_2.length c0_2, .bool a0_3]) (t := 34) ?hr ?_; (case hd => rfl); (case hg => rfl); (case hr => first | (go_simp; done) | (go_simp; rfl)); intro gb244 hg w12 hbox hb; have n0_ := K0 (Kd.V_below (Kd.V_elderB (by (with_reducible repeat (first | apply Kd.V_alloc | apply Kd.V_drewN | apply Kd.V_drew)); exact HO0_1.out) gb244 (Nat.le_of_eq hg.symm)) hb); have n1_ := K0 (Kd.V_below (Kd.V_elderB (by (with_reducible repeat (first | apply Kd.V_alloc | apply Kd.V_drewN | apply Kd.V_drew)); exact HO0_2.out) gb244 (Nat.le_of_eq hg.symm)) hb); have n2_ := K0 (below_step (by repeat (first | (with_reducible first | exact HB.out | apply below_alloc | apply pw_below_drewN | apply below_drew1) | exact HB.out)) hb); have n3_ := K0 (hbox); have n4_ := K0 ((by rw [hg]; exact (below_size (by repeat (first | (with_reducible first | exact HB.out | apply below_alloc | apply pw_below_drewN | apply below_drew1) | exact HB.out))) : w.heap.size ≤ gb244)); have n5_ := K0 ((by rw [hg]; exact (below_size (by repeat (first | (with_reducible first | exact HB.out | apply below_alloc | apply pw_below_drewN | apply below_drew1) | exact HB.out))) : w.heap.size ≤ gb244)); clear HO0_1; clear HO0_2; clear HB; have HO0_1 := n0_; have HO0_2 := n1_; have HB := n2_; have BK244 := n3_; have GW244 := n4_; have GE244 := n5_; clear n0_ n1_ n2_ n3_ n4_ n5_; clear hb hbox hg) | ((with_reducible refine gate_dst (N := 2) rfl ?_); refine box_event ?hg (N := 2) ?hd (cs := #[.int .i64 0, .slice none 0 0, .slice none 0 0, .bool false]) (t := 34) ?hr ?_; (case hd => rfl); (case hg => rfl); (case hr => first | (go_simp; done) | (go_simp; rfl)); intro gb245 hg w13 hbox hb; have n0_ := K0 (Kd.V_below (Kd.V_elderB (by (with_reducible repeat (first | apply Kd.V_alloc | apply Kd.V_drewN | apply Kd.V_drew)); exact HO0_1.out) gb245 (Nat.le_of_eq hg.symm)) hb); have n1_ := K0 (Kd.V_below (Kd.V_elderB (by (with_reducible repeat (first | apply Kd.V_alloc | apply Kd.V_drewN | apply Kd.V_drew)); exact HO0_2.out) gb245 (Nat.le_of_eq hg.symm)) hb); have n2_ := K0 (blk_below (g := gb244) (o := .cells #[.int .i64 a0_0, .slice A0_1 l0_1.length c0_1, .slice A0_2 l0_2.length c0_2, .bool a0_3] 34 (0, 0)) (by (with_reducible repeat (first | refine blk_drewN ?_ _ | refine blk_drew ?_ | refine blk_alloc ?_ _)); exact BK244.out) hb); have n3_ := K0 (below_step (by repeat (first | (with_reducible first | exact HB.out | apply below_alloc | apply pw_below_drewN | apply below_drew1 | refine below_set ?_ GE244.out) | exact HB.out)) hb); have n4_ := K0 (hbox); have n5_ := K0 ((by rw [hg]; exact (below_size (by repeat (first | (with_reducible first | exact HB.out | apply below_alloc | apply pw_below_drewN | apply below_drew1 | refine below_set ?_ GE244.out) | exact HB.out))) : w.heap.size ≤ gb245)); have n6_ := K0 ((by rw [hg]; exact (below_size (by repeat (first | (with_reducible first | exact HB.out | apply below_alloc | apply pw_below_drewN | apply below_drew1 | refine below_set ?_ GE244.out) | exact HB.out))) : w.heap.size ≤ gb245)); have n7_ := K0 ((by rw [hg]; exact Nat.ne_of_lt (blk_lt (g := gb244) (o := .cells #[.int .i64 a0_0, .slice A0_1 l0_1.length c0_1, .slice A0_2 l0_2.length c0_2, .bool a0_3] 34 (0, 0)) (by (with_reducible repeat (first | refine blk_drewN ?_ _ | refine blk_drew ?_ | refine blk_alloc ?_ _)); exact BK244.out)) : gb244 ≠ gb245)); have n8_ := K0 ((by rw [hg]; exact Nat.ne_of_gt (blk_lt (g := gb244) (o := .cells #[.int .i64 a0_0, .slice A0_1 l0_1.length c0_1, .slice A0_2 l0_2.length c0_2, .bool a0_3] 34 (0, 0)) (by (with_reducible repeat (first | refine blk_drewN ?_ _ | refine blk_drew ?_ | refine blk_alloc ?_ _)); exact BK244.out)) : gb245 ≠ gb244)); clear HO0_1; clear HO0_2; clear BK244; clear HB; have HO0_1 := n0_; have HO0_2 := n1_; have BK244 := n2_; have HB := n3_; have BK245 := n4_; have GW245 := n5_; have GE245 := n6_; have NB244_245 := n7_; have NB245_244 := n8_; clear n0_ n1_ n2_ n3_ n4_ n5_ n6_ n7_ n8_; clear hb hbox hg; have hnb14 := NB244_245.out; have hnc14 := NB245_244.out; have hcz15_0 : w13.cell? ⟨gb244, 0, none⟩ = some (.int .i64 a0_0) := (blk_cell BK244.out 0).trans rfl; have hcz15_1 : w13.cell? ⟨gb244, 1, none⟩ = some (.slice A0_1 l0_1.length c0_1) := (blk_cell BK244.out 1).trans rfl; have hcz15_2 : w13.cell? ⟨gb244, 2, none⟩ = some (.slice A0_2 l0_2.length c0_2) := (blk_cell BK244.out 2).trans rfl; have hcz15_3 : w13.cell? ⟨gb244, 3, none⟩ = some (.bool a0_3) := (blk_cell BK244.out 3).trans rfl; have hfz15_0 := blk_frozen BK244.out 0; have hfz15_1 := blk_frozen BK244.out 1; have hfz15_2 := blk_frozen BK244.out 2; have hfz15_3 := blk_frozen BK244.out 3; have q16 : ((ji8) : Int) ≤ ((l0_2.length : Int) : Int) := of_decide_eq_true (by first | (with_reducible assumption) | assumption); obtain ⟨i016, hi016, _, hsz16, _⟩ := info_parts info37; have hroom16 : l0_2.length ≤ c0_2 := (Kd.V_reads' HO0_2.out).2.1; have hC16 : Kd.F (Kd.slice 3 (Kd.int .i64)) _ _ A0_2 l0_2.length l0_2 := (Kd.V_at (base := w.heap.size) HO0_2.out).2.2; have hcut16 := cut_to (P := Try.prog) 22 37 .i64 Try.underlying22 hi016 A0_2 l0_2.length c0_2 (ji8) (of_decide_eq_true (by first | (with_reducible assumption) | assumption)) q16 hroom16; have hr16 := Kd.F_take (m := ((ji8) : Int).toNat) hC16 (by omega); have hy16 : y246.length = ((ji8) : Int).toNat := (by rw [Ny246.out, List.length_take]; omega); rw [← Ny246.out] at hr16; rw [← hy16] at hcut16; have HO250 := K0 (show Kd.V (Kd.slice 3 (Kd.int .i64)) 37 _ w.heap.size _ (.slice A0_2 y246.length c0_2) y246 from Kd.V_mk (by omega) hr16); have HC250 := K0 (show y246.length ≤ c0_2 from by omega); clear hr16 hC16 hroom16 hi016 hsz16; have KY16 := K0 hy16; clear hy16; replace q16 := eq_true q16) | ((with_reducible refine gate_store (t := 22) (p := 16) rfl ?_); refine store_event (t := 22) (p := 16) (v := ?vo_w17) (w1 := (w13.setCell ⟨gb244, 2, none⟩ (.slice A0_2 y246.length c0_2))) ?hg ?ho ?hn ?hr ?_; (case ho => rfl); (case hg => rfl); (case hn => rfl); (case hr => first | (go_simp; done) | (go_simp; rfl)); intro w17 hw; have n0_ : Aside0 (Kd.V (Kd.slice 3 (Kd.int .i64)) 37 w17 w.heap.size (fun k_ => ((P0_1_ k_ ∨ P0_2_ k_) ∨ w.heap.size ≤ k_) ∧ k_ ≠ gb244 ∧ k_ ≠ gb245) (.slice A0_1 l0_1.length c0_1) l0_1) := ⟨(by rw [hw]; exact (by (with_reducible repeat (first | apply Kd.V_alloc | apply Kd.V_drewN | apply Kd.V_drew)); exact Kd.V_mono (Kd.V_far (p := ⟨gb244, 2, none⟩) (Kd.V_mono HO0_1.out (fun k_ hk => (⟨hk, hk.1.2⟩ : _ ∧ k_ ≠ gb244))) (fun _ hk => hk.2) (.slice A0_2 y246.length c0_2)) (fun _ hk => ⟨hk.1.1.1, ⟨hk.1.1.2, hk.1.2⟩⟩)))⟩; have n1_ : Aside0 (Kd.V (Kd.slice 3 (Kd.int .i64)) 37 w17 w.heap.size (fun k_ => ((P0_1_ k_ ∨ P0_2_ k_) ∨ w.heap.size ≤ k_) ∧ k_ ≠ gb244 ∧ k_ ≠ gb245) (.slice A0_2 l0_2.length c0_2) l0_2) := ⟨(by rw [hw]; exact (by (with_reducible repeat (first | apply Kd.V_alloc | apply Kd.V_drewN | apply Kd.V_drew)); exact Kd.V_mono (Kd.V_far (p := ⟨gb244, 2, none⟩) (Kd.V_mono HO0_2.out (fun k_ hk => (⟨hk, hk.1.2⟩ : _ ∧ k_ ≠ gb244))) (fun _ hk => hk.2) (.slice A0_2 y246.length c0_2)) (fun _ hk => ⟨hk.1.1.1, ⟨hk.1.1.2, hk.1.2⟩⟩)))⟩; have n2_ : Aside0 (Kd.V (Kd.slice 3 (Kd.int .i64)) 37 w17 w.heap.size (fun k_ => ((P0_1_ k_ ∨ P0_2_ k_) ∨ w.heap.size ≤ k_) ∧ k_ ≠ gb244 ∧ k_ ≠ gb245) (.slice A0_2 y246.length c0_2) y246) := ⟨(by rw [hw]; exact (by (with_reducible repeat (first | apply Kd.V_alloc | apply Kd.V_drewN | apply Kd.V_drew)); exact Kd.V_mono (Kd.V_far (p := ⟨gb244, 2, none⟩) (Kd.V_mono HO250.out (fun k_ hk => (⟨hk, hk.1.2⟩ : _ ∧ k_ ≠ gb244))) (fun _ hk => hk.2) (.slice A0_2 y246.length c0_2)) (fun _ hk => ⟨hk.1.1.1, ⟨hk.1.1.2, hk.1.2⟩⟩)))⟩; have n3_ : Aside0 (w17.heap[gb244]? = some (.cells #[.int .i64 a0_0, .slice A0_1 l0_1.length c0_1, .slice A0_2 y246.length c0_2, .bool a0_3] 34 (0, 0))) := ⟨(by rw [hw]; exact (by (with_reducible repeat (first | refine blk_drewN ?_ _ | refine blk_drew ?_ | refine blk_alloc ?_ _)); refine blk_put (cs := #[.int .i64 a0_0, .slice A0_1 l0_1.length c0_1, .slice A0_2 l0_2.length c0_2, .bool a0_3]) ?_ 2 _ rfl; (with_reducible repeat (first | refine blk_drewN ?_ _ | refine blk_drew ?_ | refine blk_alloc ?_ _)); exact BK244.out))⟩; have n4_ : Aside0 (w17.heap[gb245]? = some (.cells #[.int .i64 0, .slice none 0 0, .slice none 0 0, .bool false] 34 (0, 0))) := ⟨(by rw [hw]; exact (by (with_reducible repeat (first | refine blk_drewN ?_ _ | refine blk_drew ?_ | refine blk_alloc ?_ _)); refine blk_far ?_ NB245_244.out _; (with_reducible repeat (first | refine blk_drewN ?_ _ | refine blk_drew ?_ | refine blk_alloc ?_ _)); exact BK245.out))⟩; have n5_ : Aside0 (Below w.heap.size w w17) := ⟨(by rw [hw]; exact (by repeat (first | (with_reducible first | exact HB.out | apply below_alloc | apply pw_below_drewN | apply below_drew1 | refine below_set ?_ GE244.out | refine below_set ?_ GE245.out) | exact HB.out)))⟩; clear hw; clear HO0_1; clear HO0_2; clear HO250; clear BK244; clear BK245; clear HB; have HO0_1 := n0_; have HO0_2 := n1_; have HO250 := n2_; have BK244 := n3_; have BK245 := n4_; have HB := n5_; clear n0_ n1_ n2_ n3_ n4_ n5_; have hcz18_0 : w17.cell? ⟨gb244, 0, none⟩ = some (.int .i64 a0_0) := (blk_cell BK244.out 0).trans rfl; have hcz18_1 : w17.cell? ⟨gb244, 1, none⟩ = some (.slice A0_1 l0_1.length c0_1) := (blk_cell BK244.out 1).trans rfl; have hcz18_2 : w17.cell? ⟨gb244, 2, none⟩ = some (.slice A0_2 y246.length c0_2) := (blk_cell BK244.out 2).trans rfl; have hcz18_3 : w17.cell? ⟨gb244, 3, none⟩ = some (.bool a0_3) := (blk_cell BK244.out 3).trans rfl; have hfz18_0 := blk_frozen BK244.out 0; have hfz18_1 := blk_frozen BK244.out 1; have hfz18_2 := blk_frozen BK244.out 2; have hfz18_3 := blk_frozen BK244.out 3) | ((with_reducible refine gate_store (t := 4) (p := 17) rfl ?_); refine store_event (t := 4) (p := 17) (v := ?vo_w19) (w1 := (w17.setCell ⟨gb244, 3, none⟩ (.bool false))) ?hg ?ho ?hn ?hr ?_; (case ho => rfl); (case hg => rfl); (case hn => rfl); (case hr => first | (go_simp; done) | (go_simp; rfl)); intro w19 hw; have n0_ : Aside0 (Kd.V (Kd.slice 3 (Kd.int .i64)) 37 w19 w.heap.size (fun k_ => ((P0_1_ k_ ∨ P0_2_ k_) ∨ w.heap.size ≤ k_) ∧ k_ ≠ gb244 ∧ k_ ≠ gb245) (.slice A0_1 l0_1.length c0_1) l0_1) := ⟨(by rw [hw]; exact (by (with_reducible repeat (first | apply Kd.V_alloc | apply Kd.V_drewN | apply Kd.V_drew)); exact Kd.V_mono (Kd.V_far (p := ⟨gb244, 3, none⟩) (Kd.V_mono HO0_1.out (fun k_ hk => (⟨hk, hk.2.1⟩ : _ ∧ k_ ≠ gb244))) (fun _ hk => hk.2) (.bool false)) (fun _ hk => ⟨hk.1.1, ⟨hk.1.2.1, hk.1.2.2⟩⟩)))⟩; have n1_ : Aside0 (Kd.V (Kd.slice 3 (Kd.int .i64)) 37 w19 w.heap.size (fun k_ => ((P0_1_ k_ ∨ P0_2_ k_) ∨ w.heap.size ≤ k_) ∧ k_ ≠ gb244 ∧ k_ ≠ gb245) (.slice A0_2 l0_2.length c0_2) l0_2) := ⟨(by rw [hw]; exact (by (with_reducible repeat (first | apply Kd.V_alloc | apply Kd.V_drewN | apply Kd.V_drew)); exact Kd.V_mono (Kd.V_far (p := ⟨gb244, 3, none⟩) (Kd.V_mono HO0_2.out (fun k_ hk => (⟨hk, hk.2.1⟩ : _ ∧ k_ ≠ gb244))) (fun _ hk => hk.2) (.bool false)) (fun _ hk => ⟨hk.1.1, ⟨hk.1.2.1, hk.1.2.2⟩⟩)))⟩; have n2_ : Aside0 (Kd.V (Kd.slice 3 (Kd.int .i64)) 37 w19 w.heap.size (fun k_ => ((P0_1_ k_ ∨ P0_2_ k_) ∨ w.heap.size ≤ k_) ∧ k_ ≠ gb244 ∧ k_ ≠ gb245) (.slice A0_2 y246.length c0_2) y246) := ⟨(by rw [hw]; exact (by (with_reducible repeat (first | apply Kd.V_alloc | apply Kd.V_drewN | apply Kd.V_drew)); exact Kd.V_mono (Kd.V_far (p := ⟨gb244, 3, none⟩) (Kd.V_mono HO250.out (fun k_ hk => (⟨hk, hk.2.1⟩ : _ ∧ k_ ≠ gb244))) (fun _ hk => hk.2) (.bool false)) (fun _ hk => ⟨hk.1.1, ⟨hk.1.2.1, hk.1.2.2⟩⟩)))⟩; have n3_ : Aside0 (w19.heap[gb244]? = some (.cells #[.int .i64 a0_0, .slice A0_1 l0_1.length c0_1, .slice A0_2 y246.length c0_2, .bool false] 34 (0, 0))) := ⟨(by rw [hw]; exact (by (with_reducible repeat (first | refine blk_drewN ?_ _ | refine blk_drew ?_ | refine blk_alloc ?_ _)); refine blk_put (cs := #[.int .i64 a0_0, .slice A0_1 l0_1.length c0_1, .slice A0_2 y246.length c0_2, .bool a0_3]) ?_ 3 _ rfl; (with_reducible repeat (first | refine blk_drewN ?_ _ | refine blk_drew ?_ | refine blk_alloc ?_ _)); exact BK244.out))⟩; have n4_ : Aside0 (w19.heap[gb245]? = some (.cells #[.int .i64 0, .slice none 0 0, .slice none 0 0, .bool false] 34 (0, 0))) := ⟨(by rw [hw]; exact (by (with_reducible repeat (first | refine blk_drewN ?_ _ | refine blk_drew ?_ | refine blk_alloc ?_ _)); refine blk_far ?_ NB245_244.out _; (with_reducible repeat (first | refine blk_drewN ?_ _ | refine blk_drew ?_ | refine blk_alloc ?_ _)); exact BK245.out))⟩; have n5_ : Aside0 (Below w.heap.size w w19) := ⟨(by rw [hw]; exact (by repeat (first | (with_reducible first | exact HB.out | apply below_alloc | apply pw_below_drewN | apply below_drew1 | refine below_set ?_ GE244.out | refine below_set ?_ GE245.out) | exact HB.out)))⟩; clear hw; clear HO0_1; clear HO0_2; clear HO250; clear BK244; clear BK245; clear HB; have HO0_1 := n0_; have HO0_2 := n1_; have HO250 := n2_; have BK244 := n3_; have BK245 := n4_; have HB := n5_; clear n0_ n1_ n2_ n3_ n4_ n5_; have hcz20_0 : w19.cell? ⟨gb244, 0, none⟩ = some (.int .i64 a0_0) := (blk_cell BK244.out 0).trans rfl; have hcz20_1 : w19.cell? ⟨gb244, 1, none⟩ = some (.slice A0_1 l0_1.length c0_1) := (blk_cell BK244.out 1).trans rfl; have hcz20_2 : w19.cell? ⟨gb244, 2, none⟩ = some (.slice A0_2 y246.length c0_2) := (blk_cell BK244.out 2).trans rfl; have hcz20_3 : w19.cell? ⟨gb244, 3, none⟩ = some (.bool false) := (blk_cell BK244.out 3).trans rfl; have hfz20_0 := blk_frozen BK244.out 0; have hfz20_1 := blk_frozen BK244.out 1; have hfz20_2 := blk_frozen BK244.out 2; have hfz20_3 := blk_frozen BK244.out 3) | ((with_reducible refine gate_callee (f := 40) rfl ?_); refine goesL_ (some 19) rfl rfl Try.func40 (by kernel_rfl) rfl #[.agg #[.int .i64 a0_0, .slice A0_1 l0_1.length c0_1, .slice A0_2 y246.length c0_2, .bool false]] rfl (by (try simp only [List.map_toArray, List.map_cons, List.map_nil]); first | done | rfl | (simp only [List.length_drop, List.length_take]; rfl)) ?_; (with_reducible refine (sequiturref20_On.calls k a0_0 (fun k_ => (((P0_1_ k_ ∨ P0_2_ k_) ∨ w.heap.size ≤ k_) ∧ (k_ ≠ gb244 ∧ k_ ≠ gb245))) _ _ l0_1 (fun k_ => (((P0_1_ k_ ∨ P0_2_ k_) ∨ w.heap.size ≤ k_) ∧ (k_ ≠ gb244 ∧ k_ ≠ gb245))) _ _ y246 false t251 t252 t255 t258 _ ?side1 ?side2 A11.out).mono ?_); (case side1 => exact HO0_1.out); (case side2 => exact HO250.out); rintro e w21 ⟨v253, v256, rfl, ho0, ho1, hb⟩; refine ⟨_, rfl, ?_⟩; have n0_ := K0 (Kd.V_below (by (with_reducible repeat (first | apply Kd.V_alloc | apply Kd.V_drewN | apply Kd.V_drew)); exact HO0_1.out) hb); have n1_ := K0 (Kd.V_below (by (with_reducible repeat (first | apply Kd.V_alloc | apply Kd.V_drewN | apply Kd.V_drew)); exact HO0_2.out) hb); have n2_ := K0 (Kd.V_below (by (with_reducible repeat (first | apply Kd.V_alloc | apply Kd.V_drewN | apply Kd.V_drew)); exact HO250.out) hb); have n3_ := K0 (Kd.V_lower (Kd.V_mono (ok' := fun k_ => ((P0_1_ k_ ∨ P0_2_ k_) ∨ w.heap.size ≤ k_) ∧ k_ ≠ gb244 ∧ k_ ≠ gb245) ho0 (fun k_ hk_ => ⟨Or.elim hk_ (fun hs_ => Or.elim hs_ (fun hs_ => hs_.1) (fun hs_ => hs_.1)) (fun hn_ => (.inr (Nat.le_trans (below_size (by repeat (first | (with_reducible first | exact HB.out | apply below_alloc | apply pw_below_drewN | apply below_drew1 | refine below_set ?_ GE244.out | refine below_set ?_ GE245.out) | exact HB.out))) hn_))), Or.elim hk_ (fun hs_ => Or.elim hs_ (fun hs_ => hs_.2.1) (fun hs_ => hs_.2.1)) (fun hn_ => (Kd.freshB (g := gb244) (o := .cells #[.int .i64 a0_0, .slice A0_1 l0_1.length c0_1, .slice A0_2 y246.length c0_2, .bool false] 34 (0, 0)) (by (with_reducible repeat (first | refine blk_drewN ?_ _ | refine blk_drew ?_ | refine blk_alloc ?_ _)); exact BK244.out) k_ hn_)), Or.elim hk_ (fun hs_ => Or.elim hs_ (fun hs_ => hs_.2.2) (fun hs_ => hs_.2.2)) (fun hn_ => (Kd.freshB (g := gb245) (o := .cells #[.int .i64 0, .slice none 0 0, .slice none 0 0, .bool false] 34 (0, 0)) (by (with_reducible repeat (first | refine blk_drewN ?_ _ | refine blk_drew ?_ | refine blk_alloc ?_ _)); exact BK245.out) k_ hn_))⟩)) (below_size (by repeat (first | (with_reducible first | exact HB.out | apply below_alloc | apply pw_below_drewN | apply below_drew1 | refine below_set ?_ GE244.out | refine below_set ?_ GE245.out) | exact HB.out)))); have n4_ := K0 (Kd.V_lower (Kd.V_mono (ok' := fun k_ => ((P0_1_ k_ ∨ P0_2_ k_) ∨ w.heap.size ≤ k_) ∧ k_ ≠ gb244 ∧ k_ ≠ gb245) ho1 (fun k_ hk_ => ⟨Or.elim hk_ (fun hs_ => Or.elim hs_ (fun hs_ => hs_.1) (fun hs_ => hs_.1)) (fun hn_ => (.inr (Nat.le_trans (below_size (by repeat (first | (with_reducible first | exact HB.out | apply below_alloc | apply pw_below_drewN | apply below_drew1 | refine below_set ?_ GE244.out | refine below_set ?_ GE245.out) | exact HB.out))) hn_))), Or.elim hk_ (fun hs_ => Or.elim hs_ (fun hs_ => hs_.2.1) (fun hs_ => hs_.2.1)) (fun hn_ => (Kd.freshB (g := gb244) (o := .cells #[.int .i64 a0_0, .slice A0_1 l0_1.length c0_1, .slice A0_2 y246.length c0_2, .bool false] 34 (0, 0)) (by (with_reducible repeat (first | refine blk_drewN ?_ _ | refine blk_drew ?_ | refine blk_alloc ?_ _)); exact BK244.out) k_ hn_)), Or.elim hk_ (fun hs_ => Or.elim hs_ (fun hs_ => hs_.2.2) (fun hs_ => hs_.2.2)) (fun hn_ => (Kd.freshB (g := gb245) (o := .cells #[.int .i64 0, .slice none 0 0, .slice none 0 0, .bool false] 34 (0, 0)) (by (with_reducible repeat (first | refine blk_drewN ?_ _ | refine blk_drew ?_ | refine blk_alloc ?_ _)); exact BK245.out) k_ hn_))⟩)) (below_size (by repeat (first | (with_reducible first | exact HB.out | apply below_alloc | apply pw_below_drewN | apply below_drew1 | refine below_set ?_ GE244.out | refine below_set ?_ GE245.out) | exact HB.out)))); have n5_ := K0 (blk_below (g := gb244) (o := .cells #[.int .i64 a0_0, .slice A0_1 l0_1.length c0_1, .slice A0_2 y246.length c0_2, .bool false] 34 (0, 0)) (by (with_reducible repeat (first | refine blk_drewN ?_ _ | refine blk_drew ?_ | refine blk_alloc ?_ _)); exact BK244.out) hb); have n6_ := K0 (blk_below (g := gb245) (o := .cells #[.int .i64 0, .slice none 0 0, .slice none 0 0, .bool false] 34 (0, 0)) (by (with_reducible repeat (first | refine blk_drewN ?_ _ | refine blk_drew ?_ | refine blk_alloc ?_ _)); exact BK245.out) hb); have n7_ := K0 (below_step (by repeat (first | (with_reducible first | exact HB.out | apply below_alloc | apply pw_below_drewN | apply below_drew1 | refine below_set ?_ GE244.out | refine below_set ?_ GE245.out) | exact HB.out)) hb); clear HO0_1; clear HO0_2; clear HO250; clear BK244; clear BK245; clear HB; have HO0_1 := n0_; have HO0_2 := n1_; have HO250 := n2_; have HO254 := n3_; have HO257 := n4_; have BK244 := n5_; have BK245 := n6_; have HB := n7_; clear n0_ n1_ n2_ n3_ n4_ n5_ n6_ n7_; (try clear hb); (try clear hb2); (try clear hk); (try clear hi); (try clear ho0); (try clear ho1); have hcz22_0 : w21.cell? ⟨gb245, 0, none⟩ = some (.int .i64 0) := (blk_cell BK245.out 0).trans rfl; have hcz22_1 : w21.cell? ⟨gb245, 1, none⟩ = some (.slice none 0 0) := (blk_cell BK245.out 1).trans rfl; have hcz22_2 : w21.cell? ⟨gb245, 2, none⟩ = some (.slice none 0 0) := (blk_cell BK245.out 2).trans rfl; have hcz22_3 : w21.cell? ⟨gb245, 3, none⟩ = some (.bool false) := (blk_cell BK245.out 3).trans rfl; have hfz22_0 := blk_frozen BK245.out 0; have hfz22_1 := blk_frozen BK245.out 1; have hfz22_2 := blk_frozen BK245.out 2; have hfz22_3 := blk_frozen BK245.out 3; obtain ⟨Ao23, co23, eo23⟩ := Kd.V_slice HO254.out; subst eo23; obtain ⟨Ao24, co24, eo24⟩ := Kd.V_slice HO257.out; subst eo24))
    refine bodyPost_ret (results_ct rfl _ _ gb245 34 #[.int .i64 t251, .slice Ao23 t252.length co23, .slice Ao24 t255.length co24, .bool t258] (0, 0) _ rfl (by (with_reducible repeat (first | refine blk_drewN ?_ _ | refine blk_drew ?_ | refine blk_alloc ?_ _)); refine blk_put (cs := #[.int .i64 t251, .slice Ao23 t252.length co23, .slice Ao24 t255.length co24, .bool false]) ?_ 3 _ rfl; (with_reducible repeat (first | refine blk_drewN ?_ _ | refine blk_drew ?_ | refine blk_alloc ?_ _)); refine blk_put (cs := #[.int .i64 t251, .slice Ao23 t252.length co23, .slice none 0 0, .bool false]) ?_ 2 _ rfl; (with_reducible repeat (first | refine blk_drewN ?_ _ | refine blk_drew ?_ | refine blk_alloc ?_ _)); refine blk_put (cs := #[.int .i64 t251, .slice none 0 0, .slice none 0 0, .bool false]) ?_ 1 _ rfl; (with_reducible repeat (first | refine blk_drewN ?_ _ | refine blk_drew ?_ | refine blk_alloc ?_ _)); refine blk_put (cs := #[.int .i64 0, .slice none 0 0, .slice none 0 0, .bool false]) ?_ 0 _ rfl; (with_reducible repeat (first | refine blk_drewN ?_ _ | refine blk_drew ?_ | refine blk_alloc ?_ _)); exact BK245.out) Try.underlying34 rfl (by kernel_rfl)) rfl ?_
    exact ⟨_, _, by first | rfl | (simp [errW_none, errW_some] <;> rfl) | (simp only [← hji8]; first | rfl | (simp [errW_none, errW_some] <;> rfl)) | (simp [*, errW_none, errW_some] <;> rfl), by (with_reducible repeat (first | apply Kd.V_alloc | apply Kd.V_drewN | apply Kd.V_drew)); exact Kd.V_mono (Kd.V_far (p := ⟨gb245, 3, none⟩) (Kd.V_far (p := ⟨gb245, 2, none⟩) (Kd.V_far (p := ⟨gb245, 1, none⟩) (Kd.V_far (p := ⟨gb245, 0, none⟩) (Kd.V_mono HO254.out (fun k_ hk => (⟨hk, hk.2.2⟩ : _ ∧ k_ ≠ gb245))) (fun _ hk => hk.2) (.int .i64 t251)) (fun _ hk => hk.2) (.slice Ao23 t252.length co23)) (fun _ hk => hk.2) (.slice Ao24 t255.length co24)) (fun _ hk => hk.2) (.bool t258)) (fun _ hk => hk.1.1), by (with_reducible repeat (first | apply Kd.V_alloc | apply Kd.V_drewN | apply Kd.V_drew)); exact Kd.V_mono (Kd.V_far (p := ⟨gb245, 3, none⟩) (Kd.V_far (p := ⟨gb245, 2, none⟩) (Kd.V_far (p := ⟨gb245, 1, none⟩) (Kd.V_far (p := ⟨gb245, 0, none⟩) (Kd.V_mono HO257.out (fun k_ hk => (⟨hk, hk.2.2⟩ : _ ∧ k_ ≠ gb245))) (fun _ hk => hk.2) (.int .i64 t251)) (fun _ hk => hk.2) (.slice Ao23 t252.length co23)) (fun _ hk => hk.2) (.slice Ao24 t255.length co24)) (fun _ hk => hk.2) (.bool t258)) (fun _ hk => hk.1.1), by repeat (first | (with_reducible first | exact HB.out | apply below_alloc | apply pw_below_drewN | apply below_drew1 | refine below_set ?_ GE244.out | refine below_set ?_ GE245.out) | exact HB.out)⟩
end Go.Proofs.Ytkmlekfmccghjaa.P
