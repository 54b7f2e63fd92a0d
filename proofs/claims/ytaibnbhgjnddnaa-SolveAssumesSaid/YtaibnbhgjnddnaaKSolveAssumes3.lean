import Derived.Test.YtaibnbhgjnddnaaKSolveAssumes1
import Derived.Test.YtaibnbhgjnddnaaKSolveAssumes2
namespace Go.Proofs.Ytaibnbhgjnddnaa.P
open Go.RowKit Go.Proofs.YtaibnbhgjnddnaaW.PrintWords Go.Proofs.YtaibnbhgjnddnaaW.PrintLast Go.Proofs.YtaibnbhgjnddnaaW.PrintMore
attribute [local go_sem] max2_int min2_int max_two min_two max_three min_three max_four min_four
set_option linter.unusedVariables false
set_option linter.unusedSimpArgs false
def nextA (E : Eng) : List Int → Option (Int × Bool)
  | [] => none
  | l :: t => if E.val l = 0 then some (l, true) else if E.val l = -1 then some (l, false) else nextA E t
def nextV (E : Eng) : Nat → Int → Int
  | 0, _ => 0
  | m + 1, v => if E.val v = 0 then v else nextV E m (v + 1)
def Sol.next (Z : Sol) : Int × Bool := match nextA Z.E Z.asm with
  | some r => r
  | none => (nextV Z.E Z.n.toNat 1, true)
set_option maxRecDepth 100000 in
set_option maxHeartbeats 4000000 in
theorem sol_next.calls {w0 w : World} {S B : Nat} {T : Tag} {U : Col} {Z : Sol} {p : EngP} {q : SolP} (h : SolIn w0 w S B T U Z p q) (hl : ∀ l ∈ Z.asm, (Lit.int .i64 l).wf = true) (hn : 0 ≤ Z.n ∧ Z.n ≤ 1024) :
    Calls Try.prog 38 #[.pointer (some ⟨S, 0, none⟩)] w fun e w' => e = .returned (.tuple #[.int .i64 Z.next.1, .bool Z.next.2]) ∧ Below w.heap.size w w' := by
  have HS := K0 h
  have HL := K0 hl
  have HN := K0 hn
  have c0 := h.cells.1
  have c3 := h.cells.2.2.2.1
  have hbig := (Kd.F_now h.asm).2.1
  clear h hl hn
  obtain ⟨aA, haA⟩ : ∃ a, q.aA = a := ⟨_, rfl⟩
  obtain ⟨cA, hcA⟩ : ∃ a, q.cA = a := ⟨_, rfl⟩
  obtain ⟨l1, hl1⟩ : ∃ a, Z.asm = a := ⟨_, rfl⟩
  rw [haA, hcA, hl1] at c3
  rw [hl1] at hbig
  have HA := K0 (show Kd.C (Kd.int .i64) w aA l1.length l1 by have := Kd.F_now HS.out.asm; rw [haA, hl1] at this; exact this)
  have HN0 := K0 (show (match nextA Z.E l1 with | some r => r | none => (nextV Z.E Z.n.toNat 1, true)) = Z.next by unfold Sol.next; rw [hl1])
  rw [hl1] at HL
  clear haA hcA hl1
  go_enter Try.func38, Try.ntmps38
  go_wp2
  go_loopg [12] l1.length (fun gg v12 wr => ∃ (j : Nat), v12 = .int .i64 (j : Int) ∧ Aside0 (j + gg = l1.length) ∧ Aside0 (Below w.heap.size w wr) ∧ Aside0 ((match nextA Z.E (l1.drop j) with | some r => r | none => (nextV Z.E Z.n.toNat 1, true)) = Z.next))
  case atStart => exact ⟨0, rfl, ⟨by simp⟩, ⟨zqw _ _⟩, HN0⟩
  case round =>
    clear HN0
    obtain ⟨j, rfl, hg, HB, HNX⟩ := hrel
    by_cases hlt : j < l1.length
    · obtain ⟨ad2, e2, x2⟩ := Kd.at_int (Kd.C_below HA.out HB.out) (j : Int) (by omega) (by omega)
      cases e2
      obtain ⟨y, hy⟩ : ∃ y, l1[j] = y := ⟨_, rfl⟩
      have hrd : rd l1 (j : Int) = y := by simp [rd, hlt, hy]
      rw [hrd] at x2
      simp only [Int.toNat_natCast] at x2
      have hnx := HNX.out
      rw [List.drop_eq_getElem_cons hlt, hy, nextA] at hnx
      have Q0 : ((0 : Int) ≤ (j : Int)) = True := eq_true (by omega)
      have Q1 : ((j : Int) < (l1.length : Int)) = True := eq_true (by omega)
      have Q2 : (j < l1.length) = True := eq_true hlt
      have hd2 : decide ((j : Int) < (l1.length : Int)) = true := zqt (by omega)
      have c0r := pw_cell_below HB.out c0
      have HV := K0 (eng_Value.calls Z.E B T p y wr (HS.out.below HB.out).e (HL.out y (by rw [← hy]; exact List.getElem_mem hlt)))
      have HNX2 := K0 hnx
      clear hy hrd hnx HNX
      go_wp2_with fail
      refine HV.out.mono ?_
      rintro e' w1 ⟨rfl, hb⟩
      have HB1 := K0 (zqo HB.out hb)
      clear hb HB HV
      by_cases hv0 : Z.E.val y = 0
      · have q0 : (Z.E.val y == 0) = true := beq_iff_eq.2 hv0
        have hnx := HNX2.out
        rw [if_pos hv0] at hnx
        have e1 : Z.next.1 = y := by rw [← hnx]
        have e2 : Z.next.2 = true := by rw [← hnx]
        clear hnx HNX2 hv0
        go_wp2
        go_ret2
        exact ⟨by rw [e1, e2]; rfl, HB1.out⟩
      · have q0 : (Z.E.val y == 0) = false := beq_eq_false_iff_ne.2 hv0
        by_cases hv1 : Z.E.val y = -1
        · have q1 : (Z.E.val y == -1) = true := beq_iff_eq.2 hv1
          have hnx := HNX2.out
          rw [if_neg hv0, if_pos hv1] at hnx
          have e1 : Z.next.1 = y := by rw [← hnx]
          have e2 : Z.next.2 = false := by rw [← hnx]
          clear hnx HNX2 hv0 hv1
          go_wp2
          go_ret2
          exact ⟨by rw [e1, e2]; rfl, HB1.out⟩
        · have q1 : (Z.E.val y == -1) = false := beq_eq_false_iff_ne.2 hv1
          have hnx := HNX2.out
          rw [if_neg hv0, if_neg hv1] at hnx
          have HNX3 := K0 hnx
          clear hnx HNX2 hv0 hv1
          go_wp2
          go_roundg (l1.length - (j + 1))
          case measure => have := hg.out; omega
          case rel => exact ⟨j + 1, by simp, ⟨by have := hg.out; omega⟩, HB1, HNX3⟩
    · have hd2 : decide ((j : Int) < (l1.length : Int)) = false := zqu (by omega)
      have Q2 : (j < l1.length) = False := eq_false hlt
      have hnx := HNX.out
      rw [List.drop_of_length_le (by omega)] at hnx
      have HNX2 := K0 (show (nextV Z.E Z.n.toNat 1, true) = Z.next from hnx)
      have e2 : Z.next.2 = true := by rw [← HNX2.out]
      clear hnx HNX
      go_wp2
      go_loopg [6] Z.n.toNat (fun gg v6 wr => ∃ (v : Nat), v6 = .int .i64 ((v : Int) + 1) ∧ Aside0 (v + gg = Z.n.toNat) ∧ Aside0 (Below w.heap.size w wr) ∧ Aside0 (nextV Z.E (Z.n.toNat - v) ((v : Int) + 1) = Z.next.1))
      case atStart => exact ⟨0, rfl, ⟨by simp⟩, HB, ⟨by rw [← HNX2.out]; rfl⟩⟩
      case round =>
        clear HB HNX2
        obtain ⟨v, rfl, hg2, HB, HNV⟩ := hrel
        have c0r := pw_cell_below HB.out c0
        have c1r := pw_cell_below HB.out HS.out.cells.2.1
        by_cases hlt2 : (v : Int) + 1 ≤ Z.n
        · have hd3 : decide ((v : Int) + 1 ≤ Z.n) = true := zqt hlt2
          have hwf : (Lit.int .i64 ((v : Int) + 1)).wf = true := by
            have a : IntKind.i64.min = -9223372036854775808 := by decide
            have b : IntKind.i64.max = 9223372036854775807 := by decide
            have := HN.out
            unfold Lit.wf
            rw [Bool.and_eq_true, decide_eq_true_eq, decide_eq_true_eq]
            omega
          have HV := K0 (eng_Value.calls Z.E B T p ((v : Int) + 1) _ (HS.out.below HB.out).e hwf)
          have PW : wrap64 ((v : Int) + 1 + 1) = ((v + 1 : Nat) : Int) + 1 := by have := HN.out; unfold wrap64; omega
          obtain ⟨g2, hgg⟩ : ∃ g2, Z.n.toNat - v = g2 + 1 := ⟨Z.n.toNat - v - 1, by omega⟩
          have hnv := HNV.out
          rw [hgg, nextV] at hnv
          have HNV2 := K0 hnv
          have HGK := K0 hgg
          clear hwf hlt2 hnv HNV hgg
          go_wp2_with fail
          refine HV.out.mono ?_
          rintro e' w1 ⟨rfl, hb⟩
          have HB1 := K0 (zqo HB.out hb)
          clear hb HB HV
          by_cases hv0 : Z.E.val ((v : Int) + 1) = 0
          · have q0 : (Z.E.val ((v : Int) + 1) == 0) = true := beq_iff_eq.2 hv0
            have hnx := HNV2.out
            rw [if_pos hv0] at hnx
            have HX := K0 hnx
            clear hnx HNV2 hv0
            go_wp2
            go_ret2
            exact ⟨by rw [← HX.out, e2]; rfl, HB1.out⟩
          · have q0 : (Z.E.val ((v : Int) + 1) == 0) = false := beq_eq_false_iff_ne.2 hv0
            have hnx := HNV2.out
            rw [if_neg hv0] at hnx
            have HX := K0 hnx
            clear hnx HNV2 hv0
            go_wp2
            go_roundg g2
            case measure => have := hg2.out; have := HGK.out; omega
            case rel => exact ⟨v + 1, by rw [PW], ⟨by have := hg2.out; have := HGK.out; omega⟩, HB1, ⟨by have := HX.out; rw [Int.natCast_succ, show Z.n.toNat - (v + 1) = g2 by have := HGK.out; omega]; exact this⟩⟩
        · have hd3 : decide ((v : Int) + 1 ≤ Z.n) = false := zqu hlt2
          have hnv := HNV.out
          rw [show Z.n.toNat - v = 0 by have := HN.out; omega] at hnv
          have HX := K0 (show (0 : Int) = Z.next.1 from hnv)
          clear hnv HNV hlt2
          go_wp2
          go_ret2
          exact ⟨by rw [← HX.out, e2]; rfl, HB.out⟩
def solve_variable.f (a0 : Int) : Option (Int) := some (mx a0 (wrap64 (-a0)))
set_option maxHeartbeats 8000000 in
set_option maxRecDepth 100000 in
theorem solve_variable.calls (a0 : Int) (r : Int) (w : World) (h : solve_variable.f a0 = some r) :
    Calls Try.prog 62 #[.int .i64 a0] w fun e w' => e = .returned (.int .i64 r) ∧ Below w.heap.size w w' := by
  have HB := K0 (zqw w.heap.size w)
  have H : (some (mx a0 (wrap64 (-a0)))) = some r := h
  clear h
  obtain ⟨ji2, hji2⟩ : ∃ j_ : Int, (mx a0 (wrap64 (-a0))) = j_ := ⟨_, rfl⟩
  replace H : (some ji2) = some r := by first | (rw [hji2] at H; exact H) | (simp only [hji2] at H ⊢; exact H)
  have hji2_ : (if a0 < (wrap64 (-a0)) then (wrap64 (-a0)) else a0) = ji2 := hji2
  as_aux_lemma =>
    obtain rfl := zqv H
    go_enter Try.func62, Try.ntmps62
    go_wp2
    go_ret
    exact ⟨by first | rfl | (simp [errW_none, errW_some] <;> rfl) | (simp only [← hji2]; first | rfl | (simp [errW_none, errW_some] <;> rfl)) | (simp [*, errW_none, errW_some] <;> rfl), by repeat (first | (with_reducible first | exact HB.out | apply zqb | apply zqa | apply zqc) | exact HB.out)⟩
def Eng.markV (E : Eng) (v : Int) : Option (Int × Int) := if v ≤ 0 then none else if (E.ms v).isSome = true then E.ms v else E.ms (wrap64 (-v))
set_option maxRecDepth 100000 in
set_option maxHeartbeats 2000000 in
theorem eng_mark.calls (E : Eng) (B : Nat) (T : Tag) (p : EngP) (v : Int) (w : World) (h : EngIn w B T E p) (hl : (Lit.int .i64 v).wf = true) :
    Calls Try.prog 80 #[.pointer (some ⟨B, 0, none⟩), .int .i64 v] w fun e w' => e = .returned (.tuple #[.agg #[.int .i64 ((E.markV v).getD (0, 0)).1, .int .i64 ((E.markV v).getD (0, 0)).2], .bool (E.markV v).isSome]) ∧ Below w.heap.size w w' := by
  have hu := Try.underlying96
  have P6 : IntKind.i64.wrap (-v) = wrap64 (-v) := Go.IntWalk.i64_left _
  by_cases hv : v ≤ 0
  · have e1 : E.markV v = none := if_pos hv
    rw [e1]
    have d1 : decide (v ≤ 0) = true := zqt hv
    clear h e1 P6
    go_enter Try.func80, Try.ntmps80
    go_wp2
    try simp only [Exit.inBlock, Exit.then]
    refine bodyPost_ret (v := .tuple #[.agg #[.int .i64 0, .int .i64 0], .bool false]) (by simp [results, Try.results80, go_sem]) rfl ⟨rfl, ?_⟩
    repeat (first | exact zqw _ _ | apply zqb | refine zqd ?_ (zqx _))
  · have d1 : decide (v ≤ 0) = false := zqu hv
    have HE := K0 h
    obtain ⟨m1, hm1⟩ : ∃ m, (E.ms v).getD (0, 0) = m := ⟨_, rfl⟩
    obtain ⟨m2, hm2⟩ : ∃ m, (E.ms (wrap64 (-v))).getD (0, 0) = m := ⟨_, rfl⟩
    have q1 : ∀ W, Below w.heap.size w W → (Instr.lookup 68 (.map (some p.bm)) (.int .i64 v) true).run Try.prog W = .ok (.tuple #[.agg #[.int .i64 m1.1, .int .i64 m1.2], .bool (E.ms v).isSome]) W := fun W hW => by
      have := h.look hW hl
      rw [hm1] at this
      exact this
    have q2 : ∀ W, Below w.heap.size w W → (Instr.lookup 68 (.map (some p.bm)) (.int .i64 (wrap64 (-v))) true).run Try.prog W = .ok (.tuple #[.agg #[.int .i64 m2.1, .int .i64 m2.2], .bool (E.ms (wrap64 (-v))).isSome]) W := fun W hW => by
      have := h.look hW (wf_wrap v)
      rw [hm2] at this
      exact this
    have c4 := h.cells.2.2.2.2.1
    have HQ1 := K0 q1
    have HQ2 := K0 q2
    clear q1 q2
    have hb1 : Below w.heap.size w (w.alloc (.cells #[.int .i64 0, .int .i64 0] 96)) := zqb (zqw _ _) _
    have c41 := pw_cell_below hb1 c4
    have r1 := HQ1.out _ hb1
    have hb2 : Below w.heap.size w ((w.alloc (.cells #[.int .i64 0, .int .i64 0] 96)).alloc (.cells #[.int .i64 m1.1, .int .i64 m1.2] 96)) := zqb hb1 _
    have c42 := pw_cell_below hb2 c4
    have r2 := HQ2.out _ hb2
    cases hs1 : (E.ms v).isSome with
    | true =>
      have e1 : E.markV v = E.ms v := by unfold Eng.markV; rw [if_neg hv, if_pos hs1]
      rw [e1, hm1, hs1]
      rw [hs1] at r1
      clear h e1 hm1 hm2 hs1
      go_enter Try.func80, Try.ntmps80
      go_wp2
      try simp only [Exit.inBlock, Exit.then]
      refine bodyPost_ret (v := .tuple #[.agg #[.int .i64 m1.1, .int .i64 m1.2], .bool true]) (by simp [results, Try.results80, go_sem]) rfl ⟨rfl, ?_⟩
      repeat (first | exact zqw _ _ | apply zqb | refine zqd ?_ (zqx _))
    | false =>
      have e1 : E.markV v = E.ms (wrap64 (-v)) := by unfold Eng.markV; rw [if_neg hv, if_neg (by rw [hs1]; decide)]
      rw [e1, hm2]
      rw [hs1] at r1
      clear h e1 hm1 hm2 hs1
      go_enter Try.func80, Try.ntmps80
      go_wp2
      try simp only [Exit.inBlock, Exit.then]
      refine bodyPost_ret (v := .tuple #[.agg #[.int .i64 m2.1, .int .i64 m2.2], .bool (E.ms (wrap64 (-v))).isSome]) (by simp [results, Try.results80, go_sem]) rfl ⟨rfl, ?_⟩
      repeat (first | exact zqw _ _ | apply zqb | refine zqd ?_ (zqx _))
def Eng.level (E : Eng) (v : Int) : Int := match E.markV v with | some q => q.1 | none => -1
set_option maxRecDepth 100000 in
theorem eng_Level.calls (E : Eng) (B : Nat) (T : Tag) (p : EngP) (v : Int) (w : World) (h : EngIn w B T E p) (hl : (Lit.int .i64 v).wf = true) :
    Calls Try.prog 61 #[.pointer (some ⟨B, 0, none⟩), .int .i64 v] w fun e w' => e = .returned (.int .i64 (E.level v)) ∧ Below w.heap.size w w' := by
  have HM := K0 (eng_mark.calls E B T p v w h hl)
  have hu := Try.underlying96
  clear h
  unfold Eng.level
  cases hq : E.markV v with
  | none =>
    rw [hq] at HM
    clear hq
    go_enter Try.func61, Try.ntmps61
    go_wp2_with fail
    refine HM.out.mono ?_
    rintro e' w1 ⟨rfl, hb⟩
    have HB := K0 hb
    clear hb
    go_wp2
    go_ret
    exact ⟨rfl, by repeat (first | exact HB.out | apply zqb | apply zqa | apply zqc)⟩
  | some q =>
    rw [hq] at HM
    clear hq
    go_enter Try.func61, Try.ntmps61
    go_wp2_with fail
    refine HM.out.mono ?_
    rintro e' w1 ⟨rfl, hb⟩
    have HB := K0 hb
    clear hb
    go_wp2
    go_ret
    exact ⟨rfl, by repeat (first | exact HB.out | apply zqb | apply zqa | apply zqc)⟩
def Eng.why (E : Eng) (v : Int) : Int := match E.markV v with | some q => q.2 | none => -1
set_option maxRecDepth 100000 in
theorem eng_Why.calls (E : Eng) (B : Nat) (T : Tag) (p : EngP) (v : Int) (w : World) (h : EngIn w B T E p) (hl : (Lit.int .i64 v).wf = true) :
    Calls Try.prog 77 #[.pointer (some ⟨B, 0, none⟩), .int .i64 v] w fun e w' => e = .returned (.int .i64 (E.why v)) ∧ Below w.heap.size w w' := by
  have HM := K0 (eng_mark.calls E B T p v w h hl)
  have hu := Try.underlying96
  clear h
  unfold Eng.why
  cases hq : E.markV v with
  | none =>
    rw [hq] at HM
    clear hq
    go_enter Try.func77, Try.ntmps77
    go_wp2_with fail
    refine HM.out.mono ?_
    rintro e' w1 ⟨rfl, hb⟩
    have HB := K0 hb
    clear hb
    go_wp2
    go_ret
    exact ⟨rfl, by repeat (first | exact HB.out | apply zqb | apply zqa | apply zqc)⟩
  | some q =>
    rw [hq] at HM
    clear hq
    go_enter Try.func77, Try.ntmps77
    go_wp2_with fail
    refine HM.out.mono ?_
    rintro e' w1 ⟨rfl, hb⟩
    have HB := K0 hb
    clear hb
    go_wp2
    go_ret
    exact ⟨rfl, by repeat (first | exact HB.out | apply zqb | apply zqa | apply zqc)⟩
end Go.Proofs.Ytaibnbhgjnddnaa.P
